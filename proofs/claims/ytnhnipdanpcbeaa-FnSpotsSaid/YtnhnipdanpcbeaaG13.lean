import Derived.Test.YtnhnipdanpcbeaaG12
namespace Go.Proofs.Ytnhnipdanpcbeaa
open Go Eng
set_option linter.unusedVariables false
set_option linter.unusedSimpArgs false
/-! ### loop.example/g00146/spec.ViewRows: function 8 -/
def spec_ViewRows (k : Nat) (p41 : List Int) (p45 : T_impl_Buf) (p49 : Int) : Option Int := if (p41.length : Int) > 400 then (some 0) else ((spec_PointsRight k p41).bind fun b4 => (if b4 = true then ((spec_BufRight k p45).bind fun b5 => (if b5 = true then ((spec_l08Size 1 p49).bind fun b6 => (if b6 = true then ((spec_l09Lay k p41 p45 false p49).bind fun b7 => (if 0 ≤ (IntKind.i64.wrap ((b7.2.length : Int) - 1)) then (if (IntKind.i64.wrap ((b7.2.length : Int) - 1)) < (b7.2.length : Int) then (some (IntKind.i64.wrap (((rdA z_impl_Spot b7.2 (IntKind.i64.wrap ((b7.2.length : Int) - 1))).Line) + 1))) else none) else none)) else (some 0))) else (some 0))) else (some 0)))
set_option maxHeartbeats 4000000 in
set_option maxRecDepth 100000 in
theorem spec_ViewRows.calls {k : Nat} {p41 : List Int} {p45 : T_impl_Buf} {p49 : Int} {r : Int} {I0 : Imm} {A42 : Option Addr} {c43 : Nat} {A46 : Option Addr} {c47 : Nat} (H : spec_ViewRows k p41 p45 p49 = some r) (hr44 : Rd (Kd.int .i64) I0 A42 c43 p41) (hr48 : Rd (Kd.int .i64) I0 A46 c47 p45.Points) :
    Meets Try.prog 8 ([.slice A42 p41.length c43, .agg #[.slice A46 p45.Points.length c47, .int .i64 p45.Cursor, .int .i64 p45.Mark], .int .i64 p49] : List Value).toArray I0 [] (fun v J M => v = .int .i64 r ∧ M = []) := by
  have hle := ImmLe.refl I0
  unfold spec_ViewRows at H
  refine fn_intro (fn := Try.f8) 42 Try.func8 rfl rfl rfl (fun E Fs => ?_)
  refine at_seq ?_
  refine at_ops [0, 1] rfl ?_
  refine at_eff rfl rfl ?_
  refine eff_box rfl rfl rfl #[.slice A46 p45.Points.length c47, .int .i64 p45.Cursor, .int .i64 p45.Mark] rfl (fun g50 => ?_)
  refine at_seg [1] [] rfl [] [0, 2, 4] (L2 := [(0, .slice A42 p41.length c43), (2, .int .i64 p49), (4, .pointer (some ⟨g50, 0, none⟩))]) (obs := []) (by kernel_rfl) ?_ ?_
  · intro w hs; exact trivial
  refine at_end ?_
  refine at_thn ?_
  refine at_seq ?_
  refine at_seq ?_
  refine at_ops [0, 1, 2, 3, 4, 5, 6, 7, 8, 9, 10, 11, 12, 13, 14, 15, 16, 17] rfl ?_
  by_cases h51 : (p41.length : Int) > 400
  · rw [if_pos h51] at H
    refine at_seg [0, 1, 2, 3, 4] [5, 6, 7, 8, 9, 10, 11, 12, 13, 14, 15, 16, 17] rfl [(3, .bool true)] [0, 2, 4, 12, 13] (L2 := [(0, .slice A42 p41.length c43), (2, .int .i64 p49), (4, .pointer (some ⟨g50, 0, none⟩)), (12, .bool true), (13, undef)]) (obs := [fun _ => (.bool (decide ((p41.length : Int) > 400)) : Value) = .bool true]) (by kernel_rfl) ?_ ?_
    · intro w hs; exact congrArg Value.bool (decide_eq_true h51)
    refine at_seg [5, 6, 7, 8, 9] [10, 11, 12, 13, 14, 15, 16, 17] rfl [] [0, 2, 4, 17, 18] (L2 := [(0, .slice A42 p41.length c43), (2, .int .i64 p49), (4, .pointer (some ⟨g50, 0, none⟩)), (17, .bool true), (18, undef)]) (obs := []) (by kernel_rfl) ?_ ?_
    · intro w hs; exact trivial
    refine at_seg [10, 11, 12, 13, 14] [15, 16, 17] rfl [] [0, 2, 4, 22, 23] (L2 := [(0, .slice A42 p41.length c43), (2, .int .i64 p49), (4, .pointer (some ⟨g50, 0, none⟩)), (22, .bool true), (23, undef)]) (obs := []) (by kernel_rfl) ?_ ?_
    · intro w hs; exact trivial
    refine at_seg [15, 16, 17] [] rfl [] [0, 2, 4, 26] (L2 := [(0, .slice A42 p41.length c43), (2, .int .i64 p49), (4, .pointer (some ⟨g50, 0, none⟩)), (26, .bool true)]) (obs := []) (by kernel_rfl) ?_ ?_
    · intro w hs; exact trivial
    refine at_end ?_
    refine at_thn ?_
    refine at_cond_t rfl (rfl) ?_
    refine at_seq ?_
    refine at_reg [] [6] (L2 := [(6, .int .i64 0)]) (obs := []) (by kernel_rfl) ?_ ?_
    · intro w hs; exact trivial
    refine at_thn ?_
    refine at_ret ?_
    refine at_then_ret ?_
    obtain rfl := Option.some.inj H
    refine at_drop (k := 0) rfl rfl ?_
    refine at_eqM (M1 := (Fs)) (M2 := (Fs)) rfl rfl ?_
    refine at_done (vs := [.int .i64 0]) (obs := []) (.inl rfl) [.tmp 6] [] rfl (by kernel_rfl) (fun w hs => trivial) (fun w hs => ⟨_, _, [], rfl, ⟨rfl, rfl⟩, hle, hs⟩)
  · rw [if_neg h51] at H
    refine at_seg [0, 1, 2, 3, 4] [5, 6, 7, 8, 9, 10, 11, 12, 13, 14, 15, 16, 17] rfl [(3, .bool false)] [0, 2, 4, 12, 13] (L2 := [(0, .slice A42 p41.length c43), (2, .int .i64 p49), (4, .pointer (some ⟨g50, 0, none⟩)), (12, .bool false), (13, .slice A42 p41.length c43)]) (obs := [fun _ => (.bool (decide ((p41.length : Int) > 400)) : Value) = .bool false]) (by kernel_rfl) ?_ ?_
    · intro w hs; exact congrArg Value.bool (decide_eq_false h51)
    refine at_eff rfl rfl ?_
    obtain ⟨b4, H52, H⟩ := bind_some H
    have hm_ := spec_PointsRight.calls (I0 := I0) H52 hr44
    refine eff_call rfl rfl ok24 rfl rfl (show Meets Try.prog 24 ([.slice A42 p41.length c43] : List Value).toArray _ [] _ from hm_) (Mr := ([(g50, .cells #[.slice A46 p45.Points.length c47, .int .i64 p45.Cursor, .int .i64 p45.Mark] 25 (0, 0))] :: Fs)) (List.Perm.refl _) (fun v53 J54 M55 hq56 hJ57 => ?_)
    replace hle := hle.trans hJ57
    replace hr44 := hr44.mono hJ57
    replace hr48 := hr48.mono hJ57
    obtain ⟨rfl, rfl⟩ := hq56
    by_cases h58 : b4 = true
    · rw [if_pos h58] at H
      refine at_seg [6, 7, 8, 9] [10, 11, 12, 13, 14, 15, 16, 17] rfl [(8, .bool false), (9, .agg #[.slice A46 p45.Points.length c47, .int .i64 p45.Cursor, .int .i64 p45.Mark])] [0, 2, 4, 17, 18] (L2 := [(0, .slice A42 p41.length c43), (2, .int .i64 p49), (4, .pointer (some ⟨g50, 0, none⟩)), (17, .bool false), (18, .agg #[.slice A46 p45.Points.length c47, .int .i64 p45.Cursor, .int .i64 p45.Mark])]) (obs := [fun _ => (.bool (!b4) : Value) = .bool false, fun w => CellsAt w ⟨g50, 0, none⟩ [.slice A46 p45.Points.length c47, .int .i64 p45.Cursor, .int .i64 p45.Mark] 0]) (by kernel_rfl) ?_ ?_
      · intro w hs; exact ⟨congrArg Value.bool (not_ff (h58)), cellsV (k := 0) hs rfl _ 0 (Nat.le_of_ble_eq_true (by kernel_rfl)) rfl⟩
      refine at_eff rfl rfl ?_
      obtain ⟨b5, H59, H⟩ := bind_some H
      have hm_ := spec_BufRight.calls (I0 := J54) H59 hr48
      refine eff_call rfl rfl ok25 rfl rfl (show Meets Try.prog 25 ([.agg #[.slice A46 p45.Points.length c47, .int .i64 p45.Cursor, .int .i64 p45.Mark]] : List Value).toArray _ [] _ from hm_) (Mr := ([(g50, .cells #[.slice A46 p45.Points.length c47, .int .i64 p45.Cursor, .int .i64 p45.Mark] 25 (0, 0))] :: Fs)) (List.Perm.refl _) (fun v60 J61 M62 hq63 hJ64 => ?_)
      replace hle := hle.trans hJ64
      replace hr44 := hr44.mono hJ64
      replace hr48 := hr48.mono hJ64
      obtain ⟨rfl, rfl⟩ := hq63
      by_cases h65 : b5 = true
      · rw [if_pos h65] at H
        refine at_seg [11, 12, 13, 14] [15, 16, 17] rfl [(13, .bool false)] [0, 2, 4, 22, 23] (L2 := [(0, .slice A42 p41.length c43), (2, .int .i64 p49), (4, .pointer (some ⟨g50, 0, none⟩)), (22, .bool false), (23, .int .i64 p49)]) (obs := [fun _ => (.bool (!b5) : Value) = .bool false]) (by kernel_rfl) ?_ ?_
        · intro w hs; exact congrArg Value.bool (not_ff (h65))
        refine at_eff rfl rfl ?_
        obtain ⟨b6, H66, H⟩ := bind_some H
        have hm_ := spec_l08Size.calls (I0 := J61) H66
        refine eff_call rfl rfl ok26 rfl rfl (show Meets Try.prog 26 ([.int .i64 1, .int .i64 p49] : List Value).toArray _ [] _ from hm_) (Mr := ([(g50, .cells #[.slice A46 p45.Points.length c47, .int .i64 p45.Cursor, .int .i64 p45.Mark] 25 (0, 0))] :: Fs)) (List.Perm.refl _) (fun v67 J68 M69 hq70 hJ71 => ?_)
        replace hle := hle.trans hJ71
        replace hr44 := hr44.mono hJ71
        replace hr48 := hr48.mono hJ71
        obtain ⟨rfl, rfl⟩ := hq70
        refine at_seg [16, 17] [] rfl [] [0, 2, 4, 26] (L2 := [(0, .slice A42 p41.length c43), (2, .int .i64 p49), (4, .pointer (some ⟨g50, 0, none⟩)), (26, .bool (!b6))]) (obs := []) (by kernel_rfl) ?_ ?_
        · intro w hs; exact trivial
        refine at_end ?_
        refine at_thn ?_
        by_cases h72 : b6 = true
        · rw [if_pos h72] at H
          refine at_cond_f rfl (not_ff (h72)) ?_
          refine at_skip ?_
          refine at_thn ?_
          refine at_seq ?_
          refine at_ops [0, 1, 2, 3, 4, 5, 6, 7, 8] rfl ?_
          refine at_seg [0, 1, 2] [3, 4, 5, 6, 7, 8] rfl [(1, .agg #[.slice A46 p45.Points.length c47, .int .i64 p45.Cursor, .int .i64 p45.Mark])] [28, 29, 30] (L2 := [(28, .slice A42 p41.length c43), (29, .agg #[.slice A46 p45.Points.length c47, .int .i64 p45.Cursor, .int .i64 p45.Mark]), (30, .int .i64 p49)]) (obs := [fun w => CellsAt w ⟨g50, 0, none⟩ [.slice A46 p45.Points.length c47, .int .i64 p45.Cursor, .int .i64 p45.Mark] 0]) (by kernel_rfl) ?_ ?_
          · intro w hs; exact cellsV (k := 0) hs rfl _ 0 (Nat.le_of_ble_eq_true (by kernel_rfl)) rfl
          refine at_eff rfl rfl ?_
          obtain ⟨b7, H73, H⟩ := bind_some H
          have hm_ := spec_l09Lay.calls (I0 := J68) H73 hr44 hr48
          refine eff_call rfl rfl ok27 rfl rfl (show Meets Try.prog 27 ([.slice A42 p41.length c43, .agg #[.slice A46 p45.Points.length c47, .int .i64 p45.Cursor, .int .i64 p45.Mark], .bool false, .int .i64 p49] : List Value).toArray _ [] _ from hm_) (Mr := ([(g50, .cells #[.slice A46 p45.Points.length c47, .int .i64 p45.Cursor, .int .i64 p45.Mark] 25 (0, 0))] :: Fs)) (List.Perm.refl _) (fun v74 J75 M76 hq77 hJ78 => ?_)
          replace hle := hle.trans hJ78
          replace hr44 := hr44.mono hJ78
          replace hr48 := hr48.mono hJ78
          obtain ⟨g79, A81, c82, s80, A84, c85, s86, rfl, rfl, ho83, ho87⟩ := hq77
          refine at_seg [4, 5, 6, 7, 8] [] rfl [] [8] (L2 := [(8, .slice A84 b7.2.length c85)]) (obs := []) (by kernel_rfl) ?_ ?_
          · intro w hs; exact trivial
          refine at_end ?_
          refine at_thn ?_
          refine at_seq ?_
          obtain ⟨h88, H⟩ := ite_some H
          obtain ⟨h89, H⟩ := ite_some H
          obtain ⟨cs91, hz92, hc90⟩ := ho87.elem z_impl_Spot (IntKind.i64.wrap ((b7.2.length : Int) - 1)) h88 h89
          obtain rfl := hz92
          refine at_reg [(6, .int .i64 ((rdA z_impl_Spot b7.2 (IntKind.i64.wrap ((b7.2.length : Int) - 1))).Line))] [6] (L2 := [(6, .int .i64 (IntKind.i64.wrap (((rdA z_impl_Spot b7.2 (IntKind.i64.wrap ((b7.2.length : Int) - 1))).Line) + 1)))]) (obs := [fun _ => A84.isSome = true ∧ 0 ≤ (IntKind.i64.wrap ((b7.2.length : Int) - 1)) ∧ (IntKind.i64.wrap ((b7.2.length : Int) - 1)) < ((b7.2.length : Nat) : Int), fun w => w.cell? (((A84.getD ad0).add ((IntKind.i64.wrap ((b7.2.length : Int) - 1)).toNat * 2)).add 0) = some (.int .i64 ((rdA z_impl_Spot b7.2 (IntKind.i64.wrap ((b7.2.length : Int) - 1))).Line))]) (by kernel_rfl) ?_ ?_
          · intro w hs; exact ⟨⟨ho87.ne (IntKind.i64.wrap ((b7.2.length : Int) - 1)) h88 h89, h88, h89⟩, hc90 0 _ rfl hs (k := 2) rfl⟩
          refine at_thn ?_
          refine at_ret ?_
          obtain rfl := Option.some.inj H
          refine at_drop (k := 0) rfl rfl ?_
          refine at_eqM (M1 := (s80 :: s86 :: [(g50, .cells #[.slice A46 p45.Points.length c47, .int .i64 p45.Cursor, .int .i64 p45.Mark] 25 (0, 0))] :: Fs)) (M2 := (s80 :: s86 :: [(g50, .cells #[.slice A46 p45.Points.length c47, .int .i64 p45.Cursor, .int .i64 p45.Mark] 25 (0, 0))] :: Fs)) rfl rfl ?_
          refine at_drop (k := 0) rfl rfl ?_
          refine at_eqM (M1 := (s86 :: [(g50, .cells #[.slice A46 p45.Points.length c47, .int .i64 p45.Cursor, .int .i64 p45.Mark] 25 (0, 0))] :: Fs)) (M2 := (s86 :: [(g50, .cells #[.slice A46 p45.Points.length c47, .int .i64 p45.Cursor, .int .i64 p45.Mark] 25 (0, 0))] :: Fs)) rfl rfl ?_
          refine at_drop (k := 0) rfl rfl ?_
          refine at_eqM (M1 := ([(g50, .cells #[.slice A46 p45.Points.length c47, .int .i64 p45.Cursor, .int .i64 p45.Mark] 25 (0, 0))] :: Fs)) (M2 := ([(g50, .cells #[.slice A46 p45.Points.length c47, .int .i64 p45.Cursor, .int .i64 p45.Mark] 25 (0, 0))] :: Fs)) rfl rfl ?_
          refine at_drop (k := 0) rfl rfl ?_
          refine at_eqM (M1 := (Fs)) (M2 := (Fs)) rfl rfl ?_
          refine at_done (vs := [.int .i64 (IntKind.i64.wrap (((rdA z_impl_Spot b7.2 (IntKind.i64.wrap ((b7.2.length : Int) - 1))).Line) + 1))]) (obs := []) (.inl rfl) [.tmp 6] [] rfl (by kernel_rfl) (fun w hs => trivial) (fun w hs => ⟨_, _, [], rfl, ⟨rfl, rfl⟩, hle, hs⟩)
        · rw [if_neg h72] at H
          refine at_cond_t rfl (not_tt (ff_of h72)) ?_
          refine at_seq ?_
          refine at_reg [] [6] (L2 := [(6, .int .i64 0)]) (obs := []) (by kernel_rfl) ?_ ?_
          · intro w hs; exact trivial
          refine at_thn ?_
          refine at_ret ?_
          refine at_then_ret ?_
          obtain rfl := Option.some.inj H
          refine at_drop (k := 0) rfl rfl ?_
          refine at_eqM (M1 := (Fs)) (M2 := (Fs)) rfl rfl ?_
          refine at_done (vs := [.int .i64 0]) (obs := []) (.inl rfl) [.tmp 6] [] rfl (by kernel_rfl) (fun w hs => trivial) (fun w hs => ⟨_, _, [], rfl, ⟨rfl, rfl⟩, hle, hs⟩)
      · rw [if_neg h65] at H
        refine at_seg [11, 12, 13, 14] [15, 16, 17] rfl [(13, .bool true)] [0, 2, 4, 22, 23] (L2 := [(0, .slice A42 p41.length c43), (2, .int .i64 p49), (4, .pointer (some ⟨g50, 0, none⟩)), (22, .bool true), (23, undef)]) (obs := [fun _ => (.bool (!b5) : Value) = .bool true]) (by kernel_rfl) ?_ ?_
        · intro w hs; exact congrArg Value.bool (not_tt (ff_of h65))
        refine at_seg [15, 16, 17] [] rfl [] [0, 2, 4, 26] (L2 := [(0, .slice A42 p41.length c43), (2, .int .i64 p49), (4, .pointer (some ⟨g50, 0, none⟩)), (26, .bool true)]) (obs := []) (by kernel_rfl) ?_ ?_
        · intro w hs; exact trivial
        refine at_end ?_
        refine at_thn ?_
        refine at_cond_t rfl (rfl) ?_
        refine at_seq ?_
        refine at_reg [] [6] (L2 := [(6, .int .i64 0)]) (obs := []) (by kernel_rfl) ?_ ?_
        · intro w hs; exact trivial
        refine at_thn ?_
        refine at_ret ?_
        refine at_then_ret ?_
        obtain rfl := Option.some.inj H
        refine at_drop (k := 0) rfl rfl ?_
        refine at_eqM (M1 := (Fs)) (M2 := (Fs)) rfl rfl ?_
        refine at_done (vs := [.int .i64 0]) (obs := []) (.inl rfl) [.tmp 6] [] rfl (by kernel_rfl) (fun w hs => trivial) (fun w hs => ⟨_, _, [], rfl, ⟨rfl, rfl⟩, hle, hs⟩)
    · rw [if_neg h58] at H
      refine at_seg [6, 7, 8, 9] [10, 11, 12, 13, 14, 15, 16, 17] rfl [(8, .bool true)] [0, 2, 4, 17, 18] (L2 := [(0, .slice A42 p41.length c43), (2, .int .i64 p49), (4, .pointer (some ⟨g50, 0, none⟩)), (17, .bool true), (18, undef)]) (obs := [fun _ => (.bool (!b4) : Value) = .bool true]) (by kernel_rfl) ?_ ?_
      · intro w hs; exact congrArg Value.bool (not_tt (ff_of h58))
      refine at_seg [10, 11, 12, 13, 14] [15, 16, 17] rfl [] [0, 2, 4, 22, 23] (L2 := [(0, .slice A42 p41.length c43), (2, .int .i64 p49), (4, .pointer (some ⟨g50, 0, none⟩)), (22, .bool true), (23, undef)]) (obs := []) (by kernel_rfl) ?_ ?_
      · intro w hs; exact trivial
      refine at_seg [15, 16, 17] [] rfl [] [0, 2, 4, 26] (L2 := [(0, .slice A42 p41.length c43), (2, .int .i64 p49), (4, .pointer (some ⟨g50, 0, none⟩)), (26, .bool true)]) (obs := []) (by kernel_rfl) ?_ ?_
      · intro w hs; exact trivial
      refine at_end ?_
      refine at_thn ?_
      refine at_cond_t rfl (rfl) ?_
      refine at_seq ?_
      refine at_reg [] [6] (L2 := [(6, .int .i64 0)]) (obs := []) (by kernel_rfl) ?_ ?_
      · intro w hs; exact trivial
      refine at_thn ?_
      refine at_ret ?_
      refine at_then_ret ?_
      obtain rfl := Option.some.inj H
      refine at_drop (k := 0) rfl rfl ?_
      refine at_eqM (M1 := (Fs)) (M2 := (Fs)) rfl rfl ?_
      refine at_done (vs := [.int .i64 0]) (obs := []) (.inl rfl) [.tmp 6] [] rfl (by kernel_rfl) (fun w hs => trivial) (fun w hs => ⟨_, _, [], rfl, ⟨rfl, rfl⟩, hle, hs⟩)

/-! ### loop.example/g00146/impl.ViewSpot: function 9 -/
mutual
def impl_ViewSpot_j1 : Nat → Bool → (List Int) → T_impl_Buf → Int → Int → Option T_impl_Spot
  | 0, _, _, _, _, _ => none
  | k + 1, x301, p65, p69, p73, p74 => if x301 = true then (some (⟨0, 0⟩ : T_impl_Spot)) else (impl_ViewSpot_j0 k p65 p69 p73 p74)
def impl_ViewSpot_j0 : Nat → (List Int) → T_impl_Buf → Int → Int → Option T_impl_Spot
  | 0, _, _, _, _ => none
  | k + 1, p65, p69, p73, p74 => (impl_lay k p65 p69 false p74).bind fun b6 => (if 0 ≤ p73 then (if p73 < (b6.spots.length : Int) then (some (rdA z_impl_Spot b6.spots p73)) else none) else none)
end
def impl_ViewSpot (k : Nat) (p65 : List Int) (p69 : T_impl_Buf) (p73 : Int) (p74 : Int) : Option T_impl_Spot := (impl_isViewed k p65 p69 p74).bind fun b7 => (if b7 = true then ((impl_Buf_isPlace p69 p73).bind fun b8 => (impl_ViewSpot_j1 k (!b8) p65 p69 p73 p74)) else (impl_ViewSpot_j1 k true p65 p69 p73 p74))
set_option maxHeartbeats 4000000 in
set_option maxRecDepth 100000 in
theorem impl_ViewSpot.calls {k : Nat} {p65 : List Int} {p69 : T_impl_Buf} {p73 : Int} {p74 : Int} {r : T_impl_Spot} {I0 : Imm} {A66 : Option Addr} {c67 : Nat} {A70 : Option Addr} {c71 : Nat} (H : impl_ViewSpot k p65 p69 p73 p74 = some r) (hr68 : Rd (Kd.int .i64) I0 A66 c67 p65) (hr72 : Rd (Kd.int .i64) I0 A70 c71 p69.Points) :
    Meets Try.prog 9 ([.slice A66 p65.length c67, .agg #[.slice A70 p69.Points.length c71, .int .i64 p69.Cursor, .int .i64 p69.Mark], .int .i64 p73, .int .i64 p74] : List Value).toArray I0 [] (fun v J M => v = .agg #[.int .i64 r.Line, .int .i64 r.Col] ∧ M = []) := by
  have hle := ImmLe.refl I0
  unfold impl_ViewSpot at H
  refine fn_intro (fn := Try.f9) 30 Try.func9 rfl rfl rfl (fun E Fs => ?_)
  refine at_seq ?_
  refine at_ops [0, 1] rfl ?_
  refine at_eff rfl rfl ?_
  refine eff_box rfl rfl rfl #[.slice A70 p69.Points.length c71, .int .i64 p69.Cursor, .int .i64 p69.Mark] rfl (fun g75 => ?_)
  refine at_eff rfl rfl ?_
  obtain ⟨i_, hi_, hz_, _, _⟩ := info31
  refine eff_alloc rfl rfl hi_ hz_ #[.int .i64 0, .int .i64 0] rfl (fun g76 => ?_)
  refine at_end ?_
  refine at_thn ?_
  refine at_join (fun L I Ms => ∃ (k178 : Nat), L = [(0, .slice A66 p65.length c67), (2, .int .i64 p73), (3, .int .i64 p74), (5, .pointer (some ⟨g75, 0, none⟩)), (8, .pointer (some ⟨g76, 0, none⟩))] ∧ Ms = ([(g75, .cells #[.slice A70 p69.Points.length c71, .int .i64 p69.Cursor, .int .i64 p69.Mark] 25 (0, 0))] :: [(g76, .cells #[.int .i64 0, .int .i64 0] 31 (0, 0))] :: Fs) ∧ impl_ViewSpot_j0 k178 p65 p69 p73 p74 = some r ∧ ImmLe I0 I ∧ k178 ≤ k ∧ Rd (Kd.int .i64) I A66 c67 p65 ∧ Rd (Kd.int .i64) I A70 c71 p69.Points) ?_ ?_
  · clear H hle hr68 hr72
    intro L I Ms h_; obtain ⟨k178, hL_, hM_, H, hle, hk179, hr68, hr72⟩ := h_; rw [hL_, hM_]; clear hL_ hM_ L Ms
    rcases k178 with _ | k178
    · exact (no_none H).elim
    rw [impl_ViewSpot_j0] at H
    refine at_seq ?_
    refine at_ops [0, 1, 2, 3, 4, 5, 6, 7, 8, 9, 10] rfl ?_
    refine at_seg [0, 1, 2] [3, 4, 5, 6, 7, 8, 9, 10] rfl [(1, .agg #[.slice A70 p69.Points.length c71, .int .i64 p69.Cursor, .int .i64 p69.Mark])] [2, 8, 20, 21, 22] (L2 := [(2, .int .i64 p73), (8, .pointer (some ⟨g76, 0, none⟩)), (20, .slice A66 p65.length c67), (21, .agg #[.slice A70 p69.Points.length c71, .int .i64 p69.Cursor, .int .i64 p69.Mark]), (22, .int .i64 p74)]) (obs := [fun w => CellsAt w ⟨g75, 0, none⟩ [.slice A70 p69.Points.length c71, .int .i64 p69.Cursor, .int .i64 p69.Mark] 0]) (by kernel_rfl) ?_ ?_
    · intro w hs; exact cellsV (k := 0) hs rfl _ 0 (Nat.le_of_ble_eq_true (by kernel_rfl)) rfl
    refine at_eff rfl rfl ?_
    obtain ⟨b6, H180, H⟩ := bind_some H
    have hm_ := impl_lay.calls (I0 := I) H180 hr68 hr72
    refine eff_call rfl rfl ok22 rfl rfl (show Meets Try.prog 22 ([.slice A66 p65.length c67, .agg #[.slice A70 p69.Points.length c71, .int .i64 p69.Cursor, .int .i64 p69.Mark], .bool false, .int .i64 p74] : List Value).toArray _ [] _ from hm_) (Mr := ([(g75, .cells #[.slice A70 p69.Points.length c71, .int .i64 p69.Cursor, .int .i64 p69.Mark] 25 (0, 0))] :: [(g76, .cells #[.int .i64 0, .int .i64 0] 31 (0, 0))] :: Fs)) (List.Perm.refl _) (fun v181 J182 M183 hq184 hJ185 => ?_)
    replace hle := hle.trans hJ185
    replace hr68 := hr68.mono hJ185
    replace hr72 := hr72.mono hJ185
    obtain ⟨g186, A188, c189, s187, A192, c193, s191, rfl, rfl, ho190, ho194⟩ := hq184
    obtain ⟨h195, H⟩ := ite_some H
    obtain ⟨h196, H⟩ := ite_some H
    obtain ⟨cs198, hz199, hc197⟩ := ho194.elem z_impl_Spot p73 h195 h196
    obtain rfl := hz199
    refine at_seg [4, 5, 6, 7, 8, 9] [10] rfl [(6, .slice A192 b6.spots.length c193), (9, .agg #[.int .i64 ((rdA z_impl_Spot b6.spots p73).Line), .int .i64 ((rdA z_impl_Spot b6.spots p73).Col)])] [8, 29] (L2 := [(8, .pointer (some ⟨g76, 0, none⟩)), (29, .agg #[.int .i64 ((rdA z_impl_Spot b6.spots p73).Line), .int .i64 ((rdA z_impl_Spot b6.spots p73).Col)])]) (obs := [fun w => w.cell? ⟨g186, 5, none⟩ = some (.slice A192 b6.spots.length c193), fun _ => A192.isSome = true ∧ 0 ≤ p73 ∧ p73 < ((b6.spots.length : Nat) : Int), fun w => CellsAt w ((A192.getD ad0).add (p73.toNat * 2)) [.int .i64 ((rdA z_impl_Spot b6.spots p73).Line), .int .i64 ((rdA z_impl_Spot b6.spots p73).Col)] 0]) (by kernel_rfl) ?_ ?_
    · intro w hs; exact ⟨hs.var (k := 0) rfl 5 rfl, ⟨ho194.ne p73 h195 h196, h195, h196⟩, ⟨hc197 0 _ rfl hs (k := 2) rfl, hc197 1 _ rfl hs (k := 2) rfl, trivial⟩⟩
    refine at_eff rfl rfl ?_
    refine eff_store 4 rfl rfl rfl rfl rfl rfl (.inl (Nat.le_refl _)) rfl (Nat.le_of_ble_eq_true (by kernel_rfl)) rfl ?_
    refine at_eqM (M1 := ([(g186, .cells #[.int .i64 b6.cols, .int .i64 b6.row, .int .i64 b6.col, .slice A188 b6.cells.length c189, .bool b6.inRow, .slice A192 b6.spots.length c193] 63 (0, 0))] :: s187 :: s191 :: [(g75, .cells #[.slice A70 p69.Points.length c71, .int .i64 p69.Cursor, .int .i64 p69.Mark] 25 (0, 0))] :: [(g76, .cells #[.int .i64 ((rdA z_impl_Spot b6.spots p73).Line), .int .i64 ((rdA z_impl_Spot b6.spots p73).Col)] 31 (0, 0))] :: Fs)) (M2 := ([(g186, .cells #[.int .i64 b6.cols, .int .i64 b6.row, .int .i64 b6.col, .slice A188 b6.cells.length c189, .bool b6.inRow, .slice A192 b6.spots.length c193] 63 (0, 0))] :: s187 :: s191 :: [(g75, .cells #[.slice A70 p69.Points.length c71, .int .i64 p69.Cursor, .int .i64 p69.Mark] 25 (0, 0))] :: [(g76, .cells #[.int .i64 ((rdA z_impl_Spot b6.spots p73).Line), .int .i64 ((rdA z_impl_Spot b6.spots p73).Col)] 31 (0, 0))] :: Fs)) rfl rfl ?_
    refine at_end ?_
    refine at_thn ?_
    refine at_ret ?_
    obtain rfl := Option.some.inj H
    refine at_drop (k := 0) rfl rfl ?_
    refine at_eqM (M1 := (s187 :: s191 :: [(g75, .cells #[.slice A70 p69.Points.length c71, .int .i64 p69.Cursor, .int .i64 p69.Mark] 25 (0, 0))] :: [(g76, .cells #[.int .i64 ((rdA z_impl_Spot b6.spots p73).Line), .int .i64 ((rdA z_impl_Spot b6.spots p73).Col)] 31 (0, 0))] :: Fs)) (M2 := (s187 :: s191 :: [(g75, .cells #[.slice A70 p69.Points.length c71, .int .i64 p69.Cursor, .int .i64 p69.Mark] 25 (0, 0))] :: [(g76, .cells #[.int .i64 ((rdA z_impl_Spot b6.spots p73).Line), .int .i64 ((rdA z_impl_Spot b6.spots p73).Col)] 31 (0, 0))] :: Fs)) rfl rfl ?_
    refine at_drop (k := 0) rfl rfl ?_
    refine at_eqM (M1 := (s191 :: [(g75, .cells #[.slice A70 p69.Points.length c71, .int .i64 p69.Cursor, .int .i64 p69.Mark] 25 (0, 0))] :: [(g76, .cells #[.int .i64 ((rdA z_impl_Spot b6.spots p73).Line), .int .i64 ((rdA z_impl_Spot b6.spots p73).Col)] 31 (0, 0))] :: Fs)) (M2 := (s191 :: [(g75, .cells #[.slice A70 p69.Points.length c71, .int .i64 p69.Cursor, .int .i64 p69.Mark] 25 (0, 0))] :: [(g76, .cells #[.int .i64 ((rdA z_impl_Spot b6.spots p73).Line), .int .i64 ((rdA z_impl_Spot b6.spots p73).Col)] 31 (0, 0))] :: Fs)) rfl rfl ?_
    refine at_drop (k := 0) rfl rfl ?_
    refine at_eqM (M1 := ([(g75, .cells #[.slice A70 p69.Points.length c71, .int .i64 p69.Cursor, .int .i64 p69.Mark] 25 (0, 0))] :: [(g76, .cells #[.int .i64 ((rdA z_impl_Spot b6.spots p73).Line), .int .i64 ((rdA z_impl_Spot b6.spots p73).Col)] 31 (0, 0))] :: Fs)) (M2 := ([(g75, .cells #[.slice A70 p69.Points.length c71, .int .i64 p69.Cursor, .int .i64 p69.Mark] 25 (0, 0))] :: [(g76, .cells #[.int .i64 ((rdA z_impl_Spot b6.spots p73).Line), .int .i64 ((rdA z_impl_Spot b6.spots p73).Col)] 31 (0, 0))] :: Fs)) rfl rfl ?_
    refine at_drop (k := 0) rfl rfl ?_
    refine at_eqM (M1 := ([(g76, .cells #[.int .i64 ((rdA z_impl_Spot b6.spots p73).Line), .int .i64 ((rdA z_impl_Spot b6.spots p73).Col)] 31 (0, 0))] :: Fs)) (M2 := ([(g76, .cells #[.int .i64 ((rdA z_impl_Spot b6.spots p73).Line), .int .i64 ((rdA z_impl_Spot b6.spots p73).Col)] 31 (0, 0))] :: Fs)) rfl rfl ?_
    refine at_done (vs := [.agg #[.int .i64 ((rdA z_impl_Spot b6.spots p73).Line), .int .i64 ((rdA z_impl_Spot b6.spots p73).Col)]]) (obs := [fun w => CellsAt w ⟨g76, 0, none⟩ [.int .i64 ((rdA z_impl_Spot b6.spots p73).Line), .int .i64 ((rdA z_impl_Spot b6.spots p73).Col)] 0]) (.inl rfl) [.cell 8 31] [(8, .agg #[.int .i64 ((rdA z_impl_Spot b6.spots p73).Line), .int .i64 ((rdA z_impl_Spot b6.spots p73).Col)])] rfl (by kernel_rfl) (fun w hs => cellsV (k := 0) hs rfl _ 0 (Nat.le_of_ble_eq_true (by kernel_rfl)) rfl) (fun w hs => ⟨_, _, [], rfl, ⟨rfl, rfl⟩, hle, (hs.tail (perm_at (k := 0) rfl))⟩)
  · intro Jn77
    refine at_join (fun L I Ms => ∃ (k302 : Nat), ∃ (x301 : Bool), L = [(0, .slice A66 p65.length c67), (2, .int .i64 p73), (3, .int .i64 p74), (5, .pointer (some ⟨g75, 0, none⟩)), (8, .pointer (some ⟨g76, 0, none⟩)), (18, .bool x301)] ∧ Ms = ([(g75, .cells #[.slice A70 p69.Points.length c71, .int .i64 p69.Cursor, .int .i64 p69.Mark] 25 (0, 0))] :: [(g76, .cells #[.int .i64 0, .int .i64 0] 31 (0, 0))] :: Fs) ∧ impl_ViewSpot_j1 k302 x301 p65 p69 p73 p74 = some r ∧ ImmLe I0 I ∧ k302 ≤ k ∧ Rd (Kd.int .i64) I A66 c67 p65 ∧ Rd (Kd.int .i64) I A70 c71 p69.Points) ?_ ?_
    · clear H hle hr68 hr72
      intro L I Ms h_; obtain ⟨k302, x301, hL_, hM_, H, hle, hk303, hr68, hr72⟩ := h_; rw [hL_, hM_]; clear hL_ hM_ L Ms
      rcases k302 with _ | k302
      · exact (no_none H).elim
      rw [impl_ViewSpot_j1] at H
      by_cases h304 : x301 = true
      · rw [if_pos h304] at H
        refine at_cond_t rfl (h304) ?_
        refine at_seq ?_
        refine at_ops [0, 1] rfl ?_
        refine at_seg [0] [1] rfl [] [8, 19] (L2 := [(8, .pointer (some ⟨g76, 0, none⟩)), (19, .agg #[.int .i64 0, .int .i64 0])]) (obs := []) (by kernel_rfl) ?_ ?_
        · intro w hs; exact trivial
        refine at_eff rfl rfl ?_
        refine eff_store 1 rfl rfl rfl rfl rfl rfl (.inl (Nat.le_refl _)) rfl (Nat.le_of_ble_eq_true (by kernel_rfl)) rfl ?_
        refine at_eqM (M1 := ([(g75, .cells #[.slice A70 p69.Points.length c71, .int .i64 p69.Cursor, .int .i64 p69.Mark] 25 (0, 0))] :: [(g76, .cells #[.int .i64 0, .int .i64 0] 31 (0, 0))] :: Fs)) (M2 := ([(g75, .cells #[.slice A70 p69.Points.length c71, .int .i64 p69.Cursor, .int .i64 p69.Mark] 25 (0, 0))] :: [(g76, .cells #[.int .i64 0, .int .i64 0] 31 (0, 0))] :: Fs)) rfl rfl ?_
        refine at_end ?_
        refine at_thn ?_
        refine at_ret ?_
        refine at_then_ret ?_
        obtain rfl := Option.some.inj H
        refine at_drop (k := 0) rfl rfl ?_
        refine at_eqM (M1 := ([(g76, .cells #[.int .i64 0, .int .i64 0] 31 (0, 0))] :: Fs)) (M2 := ([(g76, .cells #[.int .i64 0, .int .i64 0] 31 (0, 0))] :: Fs)) rfl rfl ?_
        refine at_done (vs := [.agg #[.int .i64 0, .int .i64 0]]) (obs := [fun w => CellsAt w ⟨g76, 0, none⟩ [.int .i64 0, .int .i64 0] 0]) (.inl rfl) [.cell 8 31] [(8, .agg #[.int .i64 0, .int .i64 0])] rfl (by kernel_rfl) (fun w hs => cellsV (k := 0) hs rfl _ 0 (Nat.le_of_ble_eq_true (by kernel_rfl)) rfl) (fun w hs => ⟨_, _, [], rfl, ⟨rfl, rfl⟩, hle, (hs.tail (perm_at (k := 0) rfl))⟩)
      · rw [if_neg h304] at H
        refine at_cond_f rfl (ff_of h304) ?_
        refine at_skip ?_
        refine at_thn ?_
        refine at_keep [0, 2, 3, 5, 8] (L2 := [(0, .slice A66 p65.length c67), (2, .int .i64 p73), (3, .int .i64 p74), (5, .pointer (some ⟨g75, 0, none⟩)), (8, .pointer (some ⟨g76, 0, none⟩))]) rfl ?_
        exact Jn77 _ _ _ ⟨_, rfl, rfl, H, hle, by omega, hr68, hr72⟩
    · intro Jn200
      refine at_ops [0, 1, 2, 3, 4, 5, 6, 7, 8, 9] rfl ?_
      refine at_seg [0, 1, 2] [3, 4, 5, 6, 7, 8, 9] rfl [(1, .agg #[.slice A70 p69.Points.length c71, .int .i64 p69.Cursor, .int .i64 p69.Mark])] [0, 2, 3, 5, 8, 9, 10, 11] (L2 := [(0, .slice A66 p65.length c67), (2, .int .i64 p73), (3, .int .i64 p74), (5, .pointer (some ⟨g75, 0, none⟩)), (8, .pointer (some ⟨g76, 0, none⟩)), (9, .slice A66 p65.length c67), (10, .agg #[.slice A70 p69.Points.length c71, .int .i64 p69.Cursor, .int .i64 p69.Mark]), (11, .int .i64 p74)]) (obs := [fun w => CellsAt w ⟨g75, 0, none⟩ [.slice A70 p69.Points.length c71, .int .i64 p69.Cursor, .int .i64 p69.Mark] 0]) (by kernel_rfl) ?_ ?_
      · intro w hs; exact cellsV (k := 1) hs rfl _ 0 (Nat.le_of_ble_eq_true (by kernel_rfl)) rfl
      refine at_eff rfl rfl ?_
      obtain ⟨b7, H305, H⟩ := bind_some H
      have hm_ := impl_isViewed.calls (I0 := I0) H305 hr68 hr72
      refine eff_call rfl rfl ok21 rfl rfl (show Meets Try.prog 21 ([.slice A66 p65.length c67, .agg #[.slice A70 p69.Points.length c71, .int .i64 p69.Cursor, .int .i64 p69.Mark], .int .i64 p74] : List Value).toArray _ [] _ from hm_) (Mr := ([(g76, .cells #[.int .i64 0, .int .i64 0] 31 (0, 0))] :: [(g75, .cells #[.slice A70 p69.Points.length c71, .int .i64 p69.Cursor, .int .i64 p69.Mark] 25 (0, 0))] :: Fs)) (List.Perm.refl _) (fun v306 J307 M308 hq309 hJ310 => ?_)
      replace hle := hle.trans hJ310
      replace hr68 := hr68.mono hJ310
      replace hr72 := hr72.mono hJ310
      obtain ⟨rfl, rfl⟩ := hq309
      by_cases h311 : b7 = true
      · rw [if_pos h311] at H
        refine at_seg [4, 5, 6] [7, 8, 9] rfl [(5, .bool false)] [0, 2, 3, 5, 8, 14, 15] (L2 := [(0, .slice A66 p65.length c67), (2, .int .i64 p73), (3, .int .i64 p74), (5, .pointer (some ⟨g75, 0, none⟩)), (8, .pointer (some ⟨g76, 0, none⟩)), (14, .bool false), (15, .int .i64 p73)]) (obs := [fun _ => (.bool (!b7) : Value) = .bool false]) (by kernel_rfl) ?_ ?_
        · intro w hs; exact congrArg Value.bool (not_ff (h311))
        refine at_eff rfl rfl ?_
        obtain ⟨b8, H312, H⟩ := bind_some H
        refine eff_call rfl rfl ok28 rfl rfl (show Meets Try.prog 28 ([.pointer (some ⟨g75, 0, none⟩), .int .i64 p73] : List Value).toArray _ [[(g75, .cells #[.slice A70 p69.Points.length c71, .int .i64 p69.Cursor, .int .i64 p69.Mark] 25 (0, 0))]] _ from impl_Buf_isPlace.calls H312 hr72) (Mr := ([(g76, .cells #[.int .i64 0, .int .i64 0] 31 (0, 0))] :: Fs)) ((perm_at (k := 1) rfl).trans ((List.Perm.refl _).cons _)) (fun v313 J314 M315 hq316 hJ317 => ?_)
        replace hle := hle.trans hJ317
        replace hr68 := hr68.mono hJ317
        replace hr72 := hr72.mono hJ317
        obtain ⟨rfl, rfl⟩ := hq316
        refine at_seg [8, 9] [] rfl [] [0, 2, 3, 5, 8, 18] (L2 := [(0, .slice A66 p65.length c67), (2, .int .i64 p73), (3, .int .i64 p74), (5, .pointer (some ⟨g75, 0, none⟩)), (8, .pointer (some ⟨g76, 0, none⟩)), (18, .bool (!b8))]) (obs := []) (by kernel_rfl) ?_ ?_
        · intro w hs; exact trivial
        refine at_end ?_
        refine at_thn ?_
        refine at_keep [0, 2, 3, 5, 8, 18] (L2 := [(0, .slice A66 p65.length c67), (2, .int .i64 p73), (3, .int .i64 p74), (5, .pointer (some ⟨g75, 0, none⟩)), (8, .pointer (some ⟨g76, 0, none⟩)), (18, .bool (!b8))]) rfl ?_
        exact Jn200 _ _ _ ⟨_, (!b8), rfl, rfl, H, hle, by omega, hr68, hr72⟩
      · rw [if_neg h311] at H
        refine at_seg [4, 5, 6] [7, 8, 9] rfl [(5, .bool true)] [0, 2, 3, 5, 8, 14, 15] (L2 := [(0, .slice A66 p65.length c67), (2, .int .i64 p73), (3, .int .i64 p74), (5, .pointer (some ⟨g75, 0, none⟩)), (8, .pointer (some ⟨g76, 0, none⟩)), (14, .bool true), (15, undef)]) (obs := [fun _ => (.bool (!b7) : Value) = .bool true]) (by kernel_rfl) ?_ ?_
        · intro w hs; exact congrArg Value.bool (not_tt (ff_of h311))
        refine at_seg [7, 8, 9] [] rfl [] [0, 2, 3, 5, 8, 18] (L2 := [(0, .slice A66 p65.length c67), (2, .int .i64 p73), (3, .int .i64 p74), (5, .pointer (some ⟨g75, 0, none⟩)), (8, .pointer (some ⟨g76, 0, none⟩)), (18, .bool true)]) (obs := []) (by kernel_rfl) ?_ ?_
        · intro w hs; exact trivial
        refine at_end ?_
        refine at_thn ?_
        refine at_perm ((perm_at (k := 1) rfl).trans ((List.Perm.refl _).cons _)) ?_
        refine at_keep [0, 2, 3, 5, 8, 18] (L2 := [(0, .slice A66 p65.length c67), (2, .int .i64 p73), (3, .int .i64 p74), (5, .pointer (some ⟨g75, 0, none⟩)), (8, .pointer (some ⟨g76, 0, none⟩)), (18, .bool true)]) rfl ?_
        exact Jn200 _ _ _ ⟨_, true, rfl, rfl, H, hle, by omega, hr68, hr72⟩

/-! ### loop.example/g00146/spec.ViewSpot: function 10 -/
mutual
def spec_ViewSpot_j1 : Nat → Bool → (List Int) → T_impl_Buf → Int → Int → Option T_impl_Spot
  | 0, _, _, _, _, _ => none
  | k + 1, x289, p53, p57, p61, p62 => if x289 = true then (some (⟨0, 0⟩ : T_impl_Spot)) else (spec_ViewSpot_j0 k p53 p57 p61 p62)
def spec_ViewSpot_j0 : Nat → (List Int) → T_impl_Buf → Int → Int → Option T_impl_Spot
  | 0, _, _, _, _ => none
  | k + 1, p53, p57, p61, p62 => (spec_l09Lay k p53 p57 false p62).bind fun b5 => (if 0 ≤ p61 then (if p61 < (b5.2.length : Int) then (some (rdA z_impl_Spot b5.2 p61)) else none) else none)
end
def spec_ViewSpot (k : Nat) (p53 : List Int) (p57 : T_impl_Buf) (p61 : Int) (p62 : Int) : Option T_impl_Spot := if (p53.length : Int) > 400 then (spec_ViewSpot_j1 k true p53 p57 p61 p62) else ((spec_PointsRight k p53).bind fun b6 => (if b6 = true then ((spec_BufRight k p57).bind fun b7 => (if b7 = true then ((spec_l08Size 1 p62).bind fun b8 => (if b8 = true then (if p61 < 0 then (spec_ViewSpot_j1 k true p53 p57 p61 p62) else (spec_ViewSpot_j1 k (decide (p61 > (p57.Points.length : Int))) p53 p57 p61 p62)) else (spec_ViewSpot_j1 k true p53 p57 p61 p62))) else (spec_ViewSpot_j1 k true p53 p57 p61 p62))) else (spec_ViewSpot_j1 k true p53 p57 p61 p62)))
set_option maxHeartbeats 4000000 in
set_option maxRecDepth 100000 in
theorem spec_ViewSpot.calls {k : Nat} {p53 : List Int} {p57 : T_impl_Buf} {p61 : Int} {p62 : Int} {r : T_impl_Spot} {I0 : Imm} {A54 : Option Addr} {c55 : Nat} {A58 : Option Addr} {c59 : Nat} (H : spec_ViewSpot k p53 p57 p61 p62 = some r) (hr56 : Rd (Kd.int .i64) I0 A54 c55 p53) (hr60 : Rd (Kd.int .i64) I0 A58 c59 p57.Points) :
    Meets Try.prog 10 ([.slice A54 p53.length c55, .agg #[.slice A58 p57.Points.length c59, .int .i64 p57.Cursor, .int .i64 p57.Mark], .int .i64 p61, .int .i64 p62] : List Value).toArray I0 [] (fun v J M => v = .agg #[.int .i64 r.Line, .int .i64 r.Col] ∧ M = []) := by
  have hle := ImmLe.refl I0
  unfold spec_ViewSpot at H
  refine fn_intro (fn := Try.f10) 52 Try.func10 rfl rfl rfl (fun E Fs => ?_)
  refine at_seq ?_
  refine at_ops [0, 1] rfl ?_
  refine at_eff rfl rfl ?_
  refine eff_box rfl rfl rfl #[.slice A58 p57.Points.length c59, .int .i64 p57.Cursor, .int .i64 p57.Mark] rfl (fun g63 => ?_)
  refine at_eff rfl rfl ?_
  obtain ⟨i_, hi_, hz_, _, _⟩ := info31
  refine eff_alloc rfl rfl hi_ hz_ #[.int .i64 0, .int .i64 0] rfl (fun g64 => ?_)
  refine at_end ?_
  refine at_thn ?_
  refine at_join (fun L I Ms => ∃ (k166 : Nat), L = [(0, .slice A54 p53.length c55), (2, .int .i64 p61), (3, .int .i64 p62), (5, .pointer (some ⟨g63, 0, none⟩)), (8, .pointer (some ⟨g64, 0, none⟩))] ∧ Ms = ([(g63, .cells #[.slice A58 p57.Points.length c59, .int .i64 p57.Cursor, .int .i64 p57.Mark] 25 (0, 0))] :: [(g64, .cells #[.int .i64 0, .int .i64 0] 31 (0, 0))] :: Fs) ∧ spec_ViewSpot_j0 k166 p53 p57 p61 p62 = some r ∧ ImmLe I0 I ∧ k166 ≤ k ∧ Rd (Kd.int .i64) I A54 c55 p53 ∧ Rd (Kd.int .i64) I A58 c59 p57.Points) ?_ ?_
  · clear H hle hr56 hr60
    intro L I Ms h_; obtain ⟨k166, hL_, hM_, H, hle, hk167, hr56, hr60⟩ := h_; rw [hL_, hM_]; clear hL_ hM_ L Ms
    rcases k166 with _ | k166
    · exact (no_none H).elim
    rw [spec_ViewSpot_j0] at H
    refine at_seq ?_
    refine at_ops [0, 1, 2, 3, 4, 5, 6, 7, 8] rfl ?_
    refine at_seg [0, 1, 2] [3, 4, 5, 6, 7, 8] rfl [(1, .agg #[.slice A58 p57.Points.length c59, .int .i64 p57.Cursor, .int .i64 p57.Mark])] [2, 8, 42, 43, 44] (L2 := [(2, .int .i64 p61), (8, .pointer (some ⟨g64, 0, none⟩)), (42, .slice A54 p53.length c55), (43, .agg #[.slice A58 p57.Points.length c59, .int .i64 p57.Cursor, .int .i64 p57.Mark]), (44, .int .i64 p62)]) (obs := [fun w => CellsAt w ⟨g63, 0, none⟩ [.slice A58 p57.Points.length c59, .int .i64 p57.Cursor, .int .i64 p57.Mark] 0]) (by kernel_rfl) ?_ ?_
    · intro w hs; exact cellsV (k := 0) hs rfl _ 0 (Nat.le_of_ble_eq_true (by kernel_rfl)) rfl
    refine at_eff rfl rfl ?_
    obtain ⟨b5, H168, H⟩ := bind_some H
    have hm_ := spec_l09Lay.calls (I0 := I) H168 hr56 hr60
    refine eff_call rfl rfl ok27 rfl rfl (show Meets Try.prog 27 ([.slice A54 p53.length c55, .agg #[.slice A58 p57.Points.length c59, .int .i64 p57.Cursor, .int .i64 p57.Mark], .bool false, .int .i64 p62] : List Value).toArray _ [] _ from hm_) (Mr := ([(g63, .cells #[.slice A58 p57.Points.length c59, .int .i64 p57.Cursor, .int .i64 p57.Mark] 25 (0, 0))] :: [(g64, .cells #[.int .i64 0, .int .i64 0] 31 (0, 0))] :: Fs)) (List.Perm.refl _) (fun v169 J170 M171 hq172 hJ173 => ?_)
    replace hle := hle.trans hJ173
    replace hr56 := hr56.mono hJ173
    replace hr60 := hr60.mono hJ173
    obtain ⟨g174, A176, c177, s175, A179, c180, s181, rfl, rfl, ho178, ho182⟩ := hq172
    refine at_seg [4, 5, 6, 7, 8] [] rfl [] [2, 8, 10] (L2 := [(2, .int .i64 p61), (8, .pointer (some ⟨g64, 0, none⟩)), (10, .slice A179 b5.2.length c180)]) (obs := []) (by kernel_rfl) ?_ ?_
    · intro w hs; exact trivial
    refine at_end ?_
    refine at_thn ?_
    refine at_seq ?_
    refine at_ops [0, 1, 2, 3, 4] rfl ?_
    obtain ⟨h183, H⟩ := ite_some H
    obtain ⟨h184, H⟩ := ite_some H
    obtain ⟨cs186, hz187, hc185⟩ := ho182.elem z_impl_Spot p61 h183 h184
    obtain rfl := hz187
    refine at_seg [0, 1, 2, 3] [4] rfl [(3, .agg #[.int .i64 ((rdA z_impl_Spot b5.2 p61).Line), .int .i64 ((rdA z_impl_Spot b5.2 p61).Col)])] [8, 51] (L2 := [(8, .pointer (some ⟨g64, 0, none⟩)), (51, .agg #[.int .i64 ((rdA z_impl_Spot b5.2 p61).Line), .int .i64 ((rdA z_impl_Spot b5.2 p61).Col)])]) (obs := [fun _ => A179.isSome = true ∧ 0 ≤ p61 ∧ p61 < ((b5.2.length : Nat) : Int), fun w => CellsAt w ((A179.getD ad0).add (p61.toNat * 2)) [.int .i64 ((rdA z_impl_Spot b5.2 p61).Line), .int .i64 ((rdA z_impl_Spot b5.2 p61).Col)] 0]) (by kernel_rfl) ?_ ?_
    · intro w hs; exact ⟨⟨ho182.ne p61 h183 h184, h183, h184⟩, ⟨hc185 0 _ rfl hs (k := 2) rfl, hc185 1 _ rfl hs (k := 2) rfl, trivial⟩⟩
    refine at_eff rfl rfl ?_
    refine eff_store 4 rfl rfl rfl rfl rfl rfl (.inl (Nat.le_refl _)) rfl (Nat.le_of_ble_eq_true (by kernel_rfl)) rfl ?_
    refine at_eqM (M1 := ([(g174, .cells #[.int .i64 b5.1.cols, .slice A176 b5.1.rows.length c177, .int .i64 b5.1.col] 69 (0, 0))] :: s175 :: s181 :: [(g63, .cells #[.slice A58 p57.Points.length c59, .int .i64 p57.Cursor, .int .i64 p57.Mark] 25 (0, 0))] :: [(g64, .cells #[.int .i64 ((rdA z_impl_Spot b5.2 p61).Line), .int .i64 ((rdA z_impl_Spot b5.2 p61).Col)] 31 (0, 0))] :: Fs)) (M2 := ([(g174, .cells #[.int .i64 b5.1.cols, .slice A176 b5.1.rows.length c177, .int .i64 b5.1.col] 69 (0, 0))] :: s175 :: s181 :: [(g63, .cells #[.slice A58 p57.Points.length c59, .int .i64 p57.Cursor, .int .i64 p57.Mark] 25 (0, 0))] :: [(g64, .cells #[.int .i64 ((rdA z_impl_Spot b5.2 p61).Line), .int .i64 ((rdA z_impl_Spot b5.2 p61).Col)] 31 (0, 0))] :: Fs)) rfl rfl ?_
    refine at_end ?_
    refine at_thn ?_
    refine at_ret ?_
    obtain rfl := Option.some.inj H
    refine at_drop (k := 0) rfl rfl ?_
    refine at_eqM (M1 := (s175 :: s181 :: [(g63, .cells #[.slice A58 p57.Points.length c59, .int .i64 p57.Cursor, .int .i64 p57.Mark] 25 (0, 0))] :: [(g64, .cells #[.int .i64 ((rdA z_impl_Spot b5.2 p61).Line), .int .i64 ((rdA z_impl_Spot b5.2 p61).Col)] 31 (0, 0))] :: Fs)) (M2 := (s175 :: s181 :: [(g63, .cells #[.slice A58 p57.Points.length c59, .int .i64 p57.Cursor, .int .i64 p57.Mark] 25 (0, 0))] :: [(g64, .cells #[.int .i64 ((rdA z_impl_Spot b5.2 p61).Line), .int .i64 ((rdA z_impl_Spot b5.2 p61).Col)] 31 (0, 0))] :: Fs)) rfl rfl ?_
    refine at_drop (k := 0) rfl rfl ?_
    refine at_eqM (M1 := (s181 :: [(g63, .cells #[.slice A58 p57.Points.length c59, .int .i64 p57.Cursor, .int .i64 p57.Mark] 25 (0, 0))] :: [(g64, .cells #[.int .i64 ((rdA z_impl_Spot b5.2 p61).Line), .int .i64 ((rdA z_impl_Spot b5.2 p61).Col)] 31 (0, 0))] :: Fs)) (M2 := (s181 :: [(g63, .cells #[.slice A58 p57.Points.length c59, .int .i64 p57.Cursor, .int .i64 p57.Mark] 25 (0, 0))] :: [(g64, .cells #[.int .i64 ((rdA z_impl_Spot b5.2 p61).Line), .int .i64 ((rdA z_impl_Spot b5.2 p61).Col)] 31 (0, 0))] :: Fs)) rfl rfl ?_
    refine at_drop (k := 0) rfl rfl ?_
    refine at_eqM (M1 := ([(g63, .cells #[.slice A58 p57.Points.length c59, .int .i64 p57.Cursor, .int .i64 p57.Mark] 25 (0, 0))] :: [(g64, .cells #[.int .i64 ((rdA z_impl_Spot b5.2 p61).Line), .int .i64 ((rdA z_impl_Spot b5.2 p61).Col)] 31 (0, 0))] :: Fs)) (M2 := ([(g63, .cells #[.slice A58 p57.Points.length c59, .int .i64 p57.Cursor, .int .i64 p57.Mark] 25 (0, 0))] :: [(g64, .cells #[.int .i64 ((rdA z_impl_Spot b5.2 p61).Line), .int .i64 ((rdA z_impl_Spot b5.2 p61).Col)] 31 (0, 0))] :: Fs)) rfl rfl ?_
    refine at_drop (k := 0) rfl rfl ?_
    refine at_eqM (M1 := ([(g64, .cells #[.int .i64 ((rdA z_impl_Spot b5.2 p61).Line), .int .i64 ((rdA z_impl_Spot b5.2 p61).Col)] 31 (0, 0))] :: Fs)) (M2 := ([(g64, .cells #[.int .i64 ((rdA z_impl_Spot b5.2 p61).Line), .int .i64 ((rdA z_impl_Spot b5.2 p61).Col)] 31 (0, 0))] :: Fs)) rfl rfl ?_
    refine at_done (vs := [.agg #[.int .i64 ((rdA z_impl_Spot b5.2 p61).Line), .int .i64 ((rdA z_impl_Spot b5.2 p61).Col)]]) (obs := [fun w => CellsAt w ⟨g64, 0, none⟩ [.int .i64 ((rdA z_impl_Spot b5.2 p61).Line), .int .i64 ((rdA z_impl_Spot b5.2 p61).Col)] 0]) (.inl rfl) [.cell 8 31] [(8, .agg #[.int .i64 ((rdA z_impl_Spot b5.2 p61).Line), .int .i64 ((rdA z_impl_Spot b5.2 p61).Col)])] rfl (by kernel_rfl) (fun w hs => cellsV (k := 0) hs rfl _ 0 (Nat.le_of_ble_eq_true (by kernel_rfl)) rfl) (fun w hs => ⟨_, _, [], rfl, ⟨rfl, rfl⟩, hle, (hs.tail (perm_at (k := 0) rfl))⟩)
  · intro Jn65
    refine at_join (fun L I Ms => ∃ (k290 : Nat), ∃ (x289 : Bool), L = [(0, .slice A54 p53.length c55), (2, .int .i64 p61), (3, .int .i64 p62), (5, .pointer (some ⟨g63, 0, none⟩)), (8, .pointer (some ⟨g64, 0, none⟩)), (39, .bool x289)] ∧ Ms = ([(g63, .cells #[.slice A58 p57.Points.length c59, .int .i64 p57.Cursor, .int .i64 p57.Mark] 25 (0, 0))] :: [(g64, .cells #[.int .i64 0, .int .i64 0] 31 (0, 0))] :: Fs) ∧ spec_ViewSpot_j1 k290 x289 p53 p57 p61 p62 = some r ∧ ImmLe I0 I ∧ k290 ≤ k ∧ Rd (Kd.int .i64) I A54 c55 p53 ∧ Rd (Kd.int .i64) I A58 c59 p57.Points) ?_ ?_
    · clear H hle hr56 hr60
      intro L I Ms h_; obtain ⟨k290, x289, hL_, hM_, H, hle, hk291, hr56, hr60⟩ := h_; rw [hL_, hM_]; clear hL_ hM_ L Ms
      rcases k290 with _ | k290
      · exact (no_none H).elim
      rw [spec_ViewSpot_j1] at H
      by_cases h292 : x289 = true
      · rw [if_pos h292] at H
        refine at_cond_t rfl (h292) ?_
        refine at_seq ?_
        refine at_ops [0, 1] rfl ?_
        refine at_seg [0] [1] rfl [] [8, 40] (L2 := [(8, .pointer (some ⟨g64, 0, none⟩)), (40, .agg #[.int .i64 0, .int .i64 0])]) (obs := []) (by kernel_rfl) ?_ ?_
        · intro w hs; exact trivial
        refine at_eff rfl rfl ?_
        refine eff_store 1 rfl rfl rfl rfl rfl rfl (.inl (Nat.le_refl _)) rfl (Nat.le_of_ble_eq_true (by kernel_rfl)) rfl ?_
        refine at_eqM (M1 := ([(g63, .cells #[.slice A58 p57.Points.length c59, .int .i64 p57.Cursor, .int .i64 p57.Mark] 25 (0, 0))] :: [(g64, .cells #[.int .i64 0, .int .i64 0] 31 (0, 0))] :: Fs)) (M2 := ([(g63, .cells #[.slice A58 p57.Points.length c59, .int .i64 p57.Cursor, .int .i64 p57.Mark] 25 (0, 0))] :: [(g64, .cells #[.int .i64 0, .int .i64 0] 31 (0, 0))] :: Fs)) rfl rfl ?_
        refine at_end ?_
        refine at_thn ?_
        refine at_ret ?_
        refine at_then_ret ?_
        obtain rfl := Option.some.inj H
        refine at_drop (k := 0) rfl rfl ?_
        refine at_eqM (M1 := ([(g64, .cells #[.int .i64 0, .int .i64 0] 31 (0, 0))] :: Fs)) (M2 := ([(g64, .cells #[.int .i64 0, .int .i64 0] 31 (0, 0))] :: Fs)) rfl rfl ?_
        refine at_done (vs := [.agg #[.int .i64 0, .int .i64 0]]) (obs := [fun w => CellsAt w ⟨g64, 0, none⟩ [.int .i64 0, .int .i64 0] 0]) (.inl rfl) [.cell 8 31] [(8, .agg #[.int .i64 0, .int .i64 0])] rfl (by kernel_rfl) (fun w hs => cellsV (k := 0) hs rfl _ 0 (Nat.le_of_ble_eq_true (by kernel_rfl)) rfl) (fun w hs => ⟨_, _, [], rfl, ⟨rfl, rfl⟩, hle, (hs.tail (perm_at (k := 0) rfl))⟩)
      · rw [if_neg h292] at H
        refine at_cond_f rfl (ff_of h292) ?_
        refine at_skip ?_
        refine at_thn ?_
        refine at_keep [0, 2, 3, 5, 8] (L2 := [(0, .slice A54 p53.length c55), (2, .int .i64 p61), (3, .int .i64 p62), (5, .pointer (some ⟨g63, 0, none⟩)), (8, .pointer (some ⟨g64, 0, none⟩))]) rfl ?_
        exact Jn65 _ _ _ ⟨_, rfl, rfl, H, hle, by omega, hr56, hr60⟩
    · intro Jn188
      refine at_ops [0, 1, 2, 3, 4, 5, 6, 7, 8, 9, 10, 11, 12, 13, 14, 15, 16, 17, 18, 19, 20, 21, 22, 23, 24, 25, 26, 27, 28] rfl ?_
      by_cases h293 : (p53.length : Int) > 400
      · rw [if_pos h293] at H
        refine at_seg [0, 1, 2, 3, 4] [5, 6, 7, 8, 9, 10, 11, 12, 13, 14, 15, 16, 17, 18, 19, 20, 21, 22, 23, 24, 25, 26, 27, 28] rfl [(3, .bool true)] [0, 2, 3, 5, 8, 14, 15] (L2 := [(0, .slice A54 p53.length c55), (2, .int .i64 p61), (3, .int .i64 p62), (5, .pointer (some ⟨g63, 0, none⟩)), (8, .pointer (some ⟨g64, 0, none⟩)), (14, .bool true), (15, undef)]) (obs := [fun _ => (.bool (decide ((p53.length : Int) > 400)) : Value) = .bool true]) (by kernel_rfl) ?_ ?_
        · intro w hs; exact congrArg Value.bool (decide_eq_true h293)
        refine at_seg [5, 6, 7, 8, 9] [10, 11, 12, 13, 14, 15, 16, 17, 18, 19, 20, 21, 22, 23, 24, 25, 26, 27, 28] rfl [] [0, 2, 3, 5, 8, 19, 20] (L2 := [(0, .slice A54 p53.length c55), (2, .int .i64 p61), (3, .int .i64 p62), (5, .pointer (some ⟨g63, 0, none⟩)), (8, .pointer (some ⟨g64, 0, none⟩)), (19, .bool true), (20, undef)]) (obs := []) (by kernel_rfl) ?_ ?_
        · intro w hs; exact trivial
        refine at_seg [10, 11, 12, 13, 14] [15, 16, 17, 18, 19, 20, 21, 22, 23, 24, 25, 26, 27, 28] rfl [] [0, 2, 3, 5, 8, 24, 25] (L2 := [(0, .slice A54 p53.length c55), (2, .int .i64 p61), (3, .int .i64 p62), (5, .pointer (some ⟨g63, 0, none⟩)), (8, .pointer (some ⟨g64, 0, none⟩)), (24, .bool true), (25, undef)]) (obs := []) (by kernel_rfl) ?_ ?_
        · intro w hs; exact trivial
        refine at_seg [15, 16, 17, 18, 19, 20, 21, 22, 23, 24, 25, 26, 27, 28] [] rfl [] [0, 2, 3, 5, 8, 39] (L2 := [(0, .slice A54 p53.length c55), (2, .int .i64 p61), (3, .int .i64 p62), (5, .pointer (some ⟨g63, 0, none⟩)), (8, .pointer (some ⟨g64, 0, none⟩)), (39, .bool true)]) (obs := []) (by kernel_rfl) ?_ ?_
        · intro w hs; exact trivial
        refine at_end ?_
        refine at_thn ?_
        refine at_perm ((perm_at (k := 1) rfl).trans ((List.Perm.refl _).cons _)) ?_
        refine at_keep [0, 2, 3, 5, 8, 39] (L2 := [(0, .slice A54 p53.length c55), (2, .int .i64 p61), (3, .int .i64 p62), (5, .pointer (some ⟨g63, 0, none⟩)), (8, .pointer (some ⟨g64, 0, none⟩)), (39, .bool true)]) rfl ?_
        exact Jn188 _ _ _ ⟨_, true, rfl, rfl, H, hle, by omega, hr56, hr60⟩
      · rw [if_neg h293] at H
        refine at_seg [0, 1, 2, 3, 4] [5, 6, 7, 8, 9, 10, 11, 12, 13, 14, 15, 16, 17, 18, 19, 20, 21, 22, 23, 24, 25, 26, 27, 28] rfl [(3, .bool false)] [0, 2, 3, 5, 8, 14, 15] (L2 := [(0, .slice A54 p53.length c55), (2, .int .i64 p61), (3, .int .i64 p62), (5, .pointer (some ⟨g63, 0, none⟩)), (8, .pointer (some ⟨g64, 0, none⟩)), (14, .bool false), (15, .slice A54 p53.length c55)]) (obs := [fun _ => (.bool (decide ((p53.length : Int) > 400)) : Value) = .bool false]) (by kernel_rfl) ?_ ?_
        · intro w hs; exact congrArg Value.bool (decide_eq_false h293)
        refine at_eff rfl rfl ?_
        obtain ⟨b6, H294, H⟩ := bind_some H
        have hm_ := spec_PointsRight.calls (I0 := I0) H294 hr56
        refine eff_call rfl rfl ok24 rfl rfl (show Meets Try.prog 24 ([.slice A54 p53.length c55] : List Value).toArray _ [] _ from hm_) (Mr := ([(g64, .cells #[.int .i64 0, .int .i64 0] 31 (0, 0))] :: [(g63, .cells #[.slice A58 p57.Points.length c59, .int .i64 p57.Cursor, .int .i64 p57.Mark] 25 (0, 0))] :: Fs)) (List.Perm.refl _) (fun v295 J296 M297 hq298 hJ299 => ?_)
        replace hle := hle.trans hJ299
        replace hr56 := hr56.mono hJ299
        replace hr60 := hr60.mono hJ299
        obtain ⟨rfl, rfl⟩ := hq298
        by_cases h300 : b6 = true
        · rw [if_pos h300] at H
          refine at_seg [6, 7, 8, 9] [10, 11, 12, 13, 14, 15, 16, 17, 18, 19, 20, 21, 22, 23, 24, 25, 26, 27, 28] rfl [(8, .bool false), (9, .agg #[.slice A58 p57.Points.length c59, .int .i64 p57.Cursor, .int .i64 p57.Mark])] [0, 2, 3, 5, 8, 19, 20] (L2 := [(0, .slice A54 p53.length c55), (2, .int .i64 p61), (3, .int .i64 p62), (5, .pointer (some ⟨g63, 0, none⟩)), (8, .pointer (some ⟨g64, 0, none⟩)), (19, .bool false), (20, .agg #[.slice A58 p57.Points.length c59, .int .i64 p57.Cursor, .int .i64 p57.Mark])]) (obs := [fun _ => (.bool (!b6) : Value) = .bool false, fun w => CellsAt w ⟨g63, 0, none⟩ [.slice A58 p57.Points.length c59, .int .i64 p57.Cursor, .int .i64 p57.Mark] 0]) (by kernel_rfl) ?_ ?_
          · intro w hs; exact ⟨congrArg Value.bool (not_ff (h300)), cellsV (k := 1) hs rfl _ 0 (Nat.le_of_ble_eq_true (by kernel_rfl)) rfl⟩
          refine at_eff rfl rfl ?_
          obtain ⟨b7, H301, H⟩ := bind_some H
          have hm_ := spec_BufRight.calls (I0 := J296) H301 hr60
          refine eff_call rfl rfl ok25 rfl rfl (show Meets Try.prog 25 ([.agg #[.slice A58 p57.Points.length c59, .int .i64 p57.Cursor, .int .i64 p57.Mark]] : List Value).toArray _ [] _ from hm_) (Mr := ([(g64, .cells #[.int .i64 0, .int .i64 0] 31 (0, 0))] :: [(g63, .cells #[.slice A58 p57.Points.length c59, .int .i64 p57.Cursor, .int .i64 p57.Mark] 25 (0, 0))] :: Fs)) (List.Perm.refl _) (fun v302 J303 M304 hq305 hJ306 => ?_)
          replace hle := hle.trans hJ306
          replace hr56 := hr56.mono hJ306
          replace hr60 := hr60.mono hJ306
          obtain ⟨rfl, rfl⟩ := hq305
          by_cases h307 : b7 = true
          · rw [if_pos h307] at H
            refine at_seg [11, 12, 13, 14] [15, 16, 17, 18, 19, 20, 21, 22, 23, 24, 25, 26, 27, 28] rfl [(13, .bool false)] [0, 2, 3, 5, 8, 24, 25] (L2 := [(0, .slice A54 p53.length c55), (2, .int .i64 p61), (3, .int .i64 p62), (5, .pointer (some ⟨g63, 0, none⟩)), (8, .pointer (some ⟨g64, 0, none⟩)), (24, .bool false), (25, .int .i64 p62)]) (obs := [fun _ => (.bool (!b7) : Value) = .bool false]) (by kernel_rfl) ?_ ?_
            · intro w hs; exact congrArg Value.bool (not_ff (h307))
            refine at_eff rfl rfl ?_
            obtain ⟨b8, H308, H⟩ := bind_some H
            have hm_ := spec_l08Size.calls (I0 := J303) H308
            refine eff_call rfl rfl ok26 rfl rfl (show Meets Try.prog 26 ([.int .i64 1, .int .i64 p62] : List Value).toArray _ [] _ from hm_) (Mr := ([(g64, .cells #[.int .i64 0, .int .i64 0] 31 (0, 0))] :: [(g63, .cells #[.slice A58 p57.Points.length c59, .int .i64 p57.Cursor, .int .i64 p57.Mark] 25 (0, 0))] :: Fs)) (List.Perm.refl _) (fun v309 J310 M311 hq312 hJ313 => ?_)
            replace hle := hle.trans hJ313
            replace hr56 := hr56.mono hJ313
            replace hr60 := hr60.mono hJ313
            obtain ⟨rfl, rfl⟩ := hq312
            by_cases h314 : b8 = true
            · rw [if_pos h314] at H
              by_cases h315 : p61 < 0
              · rw [if_pos h315] at H
                refine at_seg [16, 17, 18, 19, 20, 21, 22, 23, 24, 25, 26, 27, 28] [] rfl [(18, .bool false), (22, .bool true)] [0, 2, 3, 5, 8, 39] (L2 := [(0, .slice A54 p53.length c55), (2, .int .i64 p61), (3, .int .i64 p62), (5, .pointer (some ⟨g63, 0, none⟩)), (8, .pointer (some ⟨g64, 0, none⟩)), (39, .bool true)]) (obs := [fun _ => (.bool (!b8) : Value) = .bool false, fun _ => (.bool (decide (p61 < 0)) : Value) = .bool true]) (by kernel_rfl) ?_ ?_
                · intro w hs; exact ⟨congrArg Value.bool (not_ff (h314)), congrArg Value.bool (decide_eq_true h315)⟩
                refine at_end ?_
                refine at_thn ?_
                refine at_perm ((perm_at (k := 1) rfl).trans ((List.Perm.refl _).cons _)) ?_
                refine at_keep [0, 2, 3, 5, 8, 39] (L2 := [(0, .slice A54 p53.length c55), (2, .int .i64 p61), (3, .int .i64 p62), (5, .pointer (some ⟨g63, 0, none⟩)), (8, .pointer (some ⟨g64, 0, none⟩)), (39, .bool true)]) rfl ?_
                exact Jn188 _ _ _ ⟨_, true, rfl, rfl, H, hle, by omega, hr56, hr60⟩
              · rw [if_neg h315] at H
                refine at_seg [16, 17, 18, 19, 20, 21, 22, 23, 24, 25, 26, 27, 28] [] rfl [(18, .bool false), (22, .bool false), (25, .slice A58 p57.Points.length c59)] [0, 2, 3, 5, 8, 39] (L2 := [(0, .slice A54 p53.length c55), (2, .int .i64 p61), (3, .int .i64 p62), (5, .pointer (some ⟨g63, 0, none⟩)), (8, .pointer (some ⟨g64, 0, none⟩)), (39, .bool (decide (p61 > (p57.Points.length : Int))))]) (obs := [fun _ => (.bool (!b8) : Value) = .bool false, fun _ => (.bool (decide (p61 < 0)) : Value) = .bool false, fun w => w.cell? ⟨g63, 0, none⟩ = some (.slice A58 p57.Points.length c59)]) (by kernel_rfl) ?_ ?_
                · intro w hs; exact ⟨congrArg Value.bool (not_ff (h314)), congrArg Value.bool (decide_eq_false h315), hs.var (k := 1) rfl 0 rfl⟩
                refine at_end ?_
                refine at_thn ?_
                refine at_perm ((perm_at (k := 1) rfl).trans ((List.Perm.refl _).cons _)) ?_
                refine at_keep [0, 2, 3, 5, 8, 39] (L2 := [(0, .slice A54 p53.length c55), (2, .int .i64 p61), (3, .int .i64 p62), (5, .pointer (some ⟨g63, 0, none⟩)), (8, .pointer (some ⟨g64, 0, none⟩)), (39, .bool (decide (p61 > (p57.Points.length : Int))))]) rfl ?_
                exact Jn188 _ _ _ ⟨_, decide (p61 > (p57.Points.length : Int)), rfl, rfl, H, hle, by omega, hr56, hr60⟩
            · rw [if_neg h314] at H
              refine at_seg [16, 17, 18, 19, 20, 21, 22, 23, 24, 25, 26, 27, 28] [] rfl [(18, .bool true)] [0, 2, 3, 5, 8, 39] (L2 := [(0, .slice A54 p53.length c55), (2, .int .i64 p61), (3, .int .i64 p62), (5, .pointer (some ⟨g63, 0, none⟩)), (8, .pointer (some ⟨g64, 0, none⟩)), (39, .bool true)]) (obs := [fun _ => (.bool (!b8) : Value) = .bool true]) (by kernel_rfl) ?_ ?_
              · intro w hs; exact congrArg Value.bool (not_tt (ff_of h314))
              refine at_end ?_
              refine at_thn ?_
              refine at_perm ((perm_at (k := 1) rfl).trans ((List.Perm.refl _).cons _)) ?_
              refine at_keep [0, 2, 3, 5, 8, 39] (L2 := [(0, .slice A54 p53.length c55), (2, .int .i64 p61), (3, .int .i64 p62), (5, .pointer (some ⟨g63, 0, none⟩)), (8, .pointer (some ⟨g64, 0, none⟩)), (39, .bool true)]) rfl ?_
              exact Jn188 _ _ _ ⟨_, true, rfl, rfl, H, hle, by omega, hr56, hr60⟩
          · rw [if_neg h307] at H
            refine at_seg [11, 12, 13, 14] [15, 16, 17, 18, 19, 20, 21, 22, 23, 24, 25, 26, 27, 28] rfl [(13, .bool true)] [0, 2, 3, 5, 8, 24, 25] (L2 := [(0, .slice A54 p53.length c55), (2, .int .i64 p61), (3, .int .i64 p62), (5, .pointer (some ⟨g63, 0, none⟩)), (8, .pointer (some ⟨g64, 0, none⟩)), (24, .bool true), (25, undef)]) (obs := [fun _ => (.bool (!b7) : Value) = .bool true]) (by kernel_rfl) ?_ ?_
            · intro w hs; exact congrArg Value.bool (not_tt (ff_of h307))
            refine at_seg [15, 16, 17, 18, 19, 20, 21, 22, 23, 24, 25, 26, 27, 28] [] rfl [] [0, 2, 3, 5, 8, 39] (L2 := [(0, .slice A54 p53.length c55), (2, .int .i64 p61), (3, .int .i64 p62), (5, .pointer (some ⟨g63, 0, none⟩)), (8, .pointer (some ⟨g64, 0, none⟩)), (39, .bool true)]) (obs := []) (by kernel_rfl) ?_ ?_
            · intro w hs; exact trivial
            refine at_end ?_
            refine at_thn ?_
            refine at_perm ((perm_at (k := 1) rfl).trans ((List.Perm.refl _).cons _)) ?_
            refine at_keep [0, 2, 3, 5, 8, 39] (L2 := [(0, .slice A54 p53.length c55), (2, .int .i64 p61), (3, .int .i64 p62), (5, .pointer (some ⟨g63, 0, none⟩)), (8, .pointer (some ⟨g64, 0, none⟩)), (39, .bool true)]) rfl ?_
            exact Jn188 _ _ _ ⟨_, true, rfl, rfl, H, hle, by omega, hr56, hr60⟩
        · rw [if_neg h300] at H
          refine at_seg [6, 7, 8, 9] [10, 11, 12, 13, 14, 15, 16, 17, 18, 19, 20, 21, 22, 23, 24, 25, 26, 27, 28] rfl [(8, .bool true)] [0, 2, 3, 5, 8, 19, 20] (L2 := [(0, .slice A54 p53.length c55), (2, .int .i64 p61), (3, .int .i64 p62), (5, .pointer (some ⟨g63, 0, none⟩)), (8, .pointer (some ⟨g64, 0, none⟩)), (19, .bool true), (20, undef)]) (obs := [fun _ => (.bool (!b6) : Value) = .bool true]) (by kernel_rfl) ?_ ?_
          · intro w hs; exact congrArg Value.bool (not_tt (ff_of h300))
          refine at_seg [10, 11, 12, 13, 14] [15, 16, 17, 18, 19, 20, 21, 22, 23, 24, 25, 26, 27, 28] rfl [] [0, 2, 3, 5, 8, 24, 25] (L2 := [(0, .slice A54 p53.length c55), (2, .int .i64 p61), (3, .int .i64 p62), (5, .pointer (some ⟨g63, 0, none⟩)), (8, .pointer (some ⟨g64, 0, none⟩)), (24, .bool true), (25, undef)]) (obs := []) (by kernel_rfl) ?_ ?_
          · intro w hs; exact trivial
          refine at_seg [15, 16, 17, 18, 19, 20, 21, 22, 23, 24, 25, 26, 27, 28] [] rfl [] [0, 2, 3, 5, 8, 39] (L2 := [(0, .slice A54 p53.length c55), (2, .int .i64 p61), (3, .int .i64 p62), (5, .pointer (some ⟨g63, 0, none⟩)), (8, .pointer (some ⟨g64, 0, none⟩)), (39, .bool true)]) (obs := []) (by kernel_rfl) ?_ ?_
          · intro w hs; exact trivial
          refine at_end ?_
          refine at_thn ?_
          refine at_perm ((perm_at (k := 1) rfl).trans ((List.Perm.refl _).cons _)) ?_
          refine at_keep [0, 2, 3, 5, 8, 39] (L2 := [(0, .slice A54 p53.length c55), (2, .int .i64 p61), (3, .int .i64 p62), (5, .pointer (some ⟨g63, 0, none⟩)), (8, .pointer (some ⟨g64, 0, none⟩)), (39, .bool true)]) rfl ?_
          exact Jn188 _ _ _ ⟨_, true, rfl, rfl, H, hle, by omega, hr56, hr60⟩
end Go.Proofs.Ytnhnipdanpcbeaa
