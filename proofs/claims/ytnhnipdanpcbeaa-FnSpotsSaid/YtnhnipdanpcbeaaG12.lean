import Derived.Test.YtnhnipdanpcbeaaG11
namespace Go.Proofs.Ytnhnipdanpcbeaa
open Go Eng
set_option linter.unusedVariables false
set_option linter.unusedSimpArgs false
/-! ### (*loop.example/g00146/spec.l09Pen).point: function 51 -/
def spec_l09Pen_point_l0 : Nat → Int → Int → (List (List T_impl_Cell)) → Int → (List Int) → Int → Option T_spec_l09Pen
  | 0, _, _, _, _, _, _ => none
  | k + 1, x127, x128, x129, x134, b9, p105 => if x127 < (b9.length : Int) then (if 0 ≤ x127 then ((spec_l09Pen_shown k (⟨x128, x129, x134⟩ : T_spec_l09Pen) (rdA 0 b9 x127) p105).bind fun b10 => (spec_l09Pen_point_l0 k (IntKind.i64.wrap (x127 + 1)) b10.cols b10.rows b10.col b9 p105)) else none) else (some (⟨x128, x129, x134⟩ : T_spec_l09Pen))
def spec_l09Pen_point (k : Nat) (p99 : T_spec_l09Pen) (p104 : Int) (p105 : Int) : Option T_spec_l09Pen := if p104 = 10 then ((spec_l09Pen_next p99).bind fun b8 => (some b8)) else ((spec_l01Shown k p104).bind fun b9 => (spec_l09Pen_point_l0 k 0 p99.cols p99.rows p99.col b9 p105))
set_option maxHeartbeats 4000000 in
set_option maxRecDepth 100000 in
theorem spec_l09Pen_point.calls {k : Nat} {p99 : T_spec_l09Pen} {p104 : Int} {p105 : Int} {r : T_spec_l09Pen} {I0 : Imm} {g98 : Nat} {A100 : Option Addr} {c101 : Nat} {s102 : Seg} (H : spec_l09Pen_point k p99 p104 p105 = some r) (ho103 : DOwn (DK.sl k_impl_Cell 71) 36 I0 A100 c101 p99.rows s102) :
    Meets Try.prog 51 ([.pointer (some ⟨g98, 0, none⟩), .int .i64 p104, .int .i64 p105] : List Value).toArray I0 [[(g98, .cells #[.int .i64 p99.cols, .slice A100 p99.rows.length c101, .int .i64 p99.col] 69 (0, 0))], s102] (fun v J M => ∃ (A_1 : Option Addr) (c_2 : Nat) (s_3 : Seg), v = .tuple #[] ∧ M = [[(g98, .cells #[.int .i64 r.cols, .slice A_1 r.rows.length c_2, .int .i64 r.col] 69 (0, 0))], s_3] ∧ DOwn (DK.sl k_impl_Cell 71) 36 J A_1 c_2 r.rows s_3) := by
  have hle := ImmLe.refl I0
  unfold spec_l09Pen_point at H
  refine fn_intro (fn := Try.f51) 27 Try.func51 rfl rfl rfl (fun E Fs => ?_)
  refine at_seq ?_
  refine at_seq ?_
  refine at_reg [] [0, 1, 2, 9] (L2 := [(0, .pointer (some ⟨g98, 0, none⟩)), (1, .int .i64 p104), (2, .int .i64 p105), (9, .bool (p104 == 10))]) (obs := []) (by kernel_rfl) ?_ ?_
  · intro w hs; exact trivial
  refine at_thn ?_
  by_cases h106 : p104 = 10
  · rw [if_pos h106] at H
    refine at_cond_t rfl (beq_iff_eq.2 h106) ?_
    refine at_seq ?_
    refine at_ops [0, 1] rfl ?_
    refine at_seg [0] [1] rfl [] [10] (L2 := [(10, .pointer (some ⟨g98, 0, none⟩))]) (obs := []) (by kernel_rfl) ?_ ?_
    · intro w hs; exact trivial
    refine at_eff rfl rfl ?_
    obtain ⟨b8, H107, H⟩ := bind_some H
    refine eff_call rfl rfl ok50 rfl rfl (show Meets Try.prog 50 ([.pointer (some ⟨g98, 0, none⟩)] : List Value).toArray _ [[(g98, .cells #[.int .i64 p99.cols, .slice A100 p99.rows.length c101, .int .i64 p99.col] 69 (0, 0))], s102] _ from spec_l09Pen_next.calls H107 ho103) (Mr := (Fs)) (List.Perm.refl _) (fun v108 J109 M110 hq111 hJ112 => ?_)
    replace hle := hle.trans hJ112
    replace ho103 := ho103.mono hJ112
    obtain ⟨A113, c114, s115, rfl, rfl, ho116⟩ := hq111
    refine at_end ?_
    refine at_thn ?_
    refine at_ret ?_
    refine at_then_ret ?_
    obtain rfl := Option.some.inj H
    refine at_done (vs := []) (obs := []) (.inl rfl) [] [] rfl (by kernel_rfl) (fun w hs => trivial) (fun w hs => ⟨_, _, [[(g98, .cells #[.int .i64 b8.cols, .slice A113 b8.rows.length c114, .int .i64 b8.col] 69 (0, 0))], s115], rfl, ⟨A113, c114, s115, rfl, rfl, ho116⟩, hle, hs⟩)
  · rw [if_neg h106] at H
    refine at_cond_f rfl (beq_eq_false_iff_ne.2 h106) ?_
    refine at_skip ?_
    refine at_thn ?_
    refine at_seq ?_
    refine at_ops [0, 1, 2] rfl ?_
    refine at_seg [0] [1, 2] rfl [] [0, 2, 12] (L2 := [(0, .pointer (some ⟨g98, 0, none⟩)), (2, .int .i64 p105), (12, .int .i64 p104)]) (obs := []) (by kernel_rfl) ?_ ?_
    · intro w hs; exact trivial
    refine at_eff rfl rfl ?_
    obtain ⟨b9, H117, H⟩ := bind_some H
    have hm_ := spec_l01Shown.calls (I0 := I0) H117
    refine eff_call rfl rfl ok66 rfl rfl (show Meets Try.prog 66 ([.int .i64 p104] : List Value).toArray _ [] _ from hm_) (Mr := ([(g98, .cells #[.int .i64 p99.cols, .slice A100 p99.rows.length c101, .int .i64 p99.col] 69 (0, 0))] :: s102 :: Fs)) (List.Perm.refl _) (fun v118 J119 M120 hq121 hJ122 => ?_)
    replace hle := hle.trans hJ122
    replace ho103 := ho103.mono hJ122
    obtain ⟨A123, c124, s125, rfl, rfl, ho126⟩ := hq121
    refine at_seg [2] [] rfl [] [0, 2, 6] (L2 := [(0, .pointer (some ⟨g98, 0, none⟩)), (2, .int .i64 p105), (6, .slice A123 b9.length c124)]) (obs := []) (by kernel_rfl) ?_ ?_
    · intro w hs; exact trivial
    refine at_end ?_
    refine at_thn ?_
    refine at_seq ?_
    refine at_reg [] [0, 2, 6, 7] (L2 := [(0, .pointer (some ⟨g98, 0, none⟩)), (2, .int .i64 p105), (6, .slice A123 b9.length c124), (7, .int .i64 0)]) (obs := []) (by kernel_rfl) ?_ ?_
    · intro w hs; exact trivial
    refine at_thn ?_
    refine at_block ?_
    refine at_perm ((perm_at (k := 1) rfl).trans ((List.Perm.refl _).cons _)) ?_
    refine at_keep [0, 2, 6, 7] (L2 := [(0, .pointer (some ⟨g98, 0, none⟩)), (2, .int .i64 p105), (6, .slice A123 b9.length c124), (7, .int .i64 0)]) rfl ?_
    refine at_loop (fun k135 L I Ms => ∃ (x127 : Int) (x128 : Int) (x129 : List (List T_impl_Cell)) (A130 : Option Addr) (c131 : Nat) (s132 : Seg) (x134 : Int), L = [(0, .pointer (some ⟨g98, 0, none⟩)), (2, .int .i64 p105), (6, .slice A123 b9.length c124), (7, .int .i64 x127)] ∧ Ms = ([(g98, .cells #[.int .i64 x128, .slice A130 x129.length c131, .int .i64 x134] 69 (0, 0))] :: s125 :: s132 :: Fs) ∧ spec_l09Pen_point_l0 k135 x127 x128 x129 x134 b9 p105 = some r ∧ ImmLe I0 I ∧ k135 ≤ k ∧ Own (Kd.int .i64) 2 I A123 c124 b9 s125 ∧ DOwn (DK.sl k_impl_Cell 71) 36 I A130 c131 x129 s132) ?_ ?_ k ⟨0, p99.cols, p99.rows, A100, c101, s102, p99.col, rfl, rfl, H, hle, Nat.le_refl _, ho126, ho103⟩
    · rintro L I Ms ⟨_, _, _, _, _, _, _, rfl, rfl, H, _⟩; exact no_none H
    · clear H hle ho103 ho126
      intro k135 ih136 L I Ms h_; obtain ⟨x127, x128, x129, A130, c131, s132, x134, hL_, hM_, H, hle, hk137, ho126, ho133⟩ := h_; rw [hL_, hM_]; clear hL_ hM_ L Ms
      rw [spec_l09Pen_point_l0] at H
      refine at_seq ?_
      refine at_seq ?_
      refine at_reg [] [0, 2, 6, 7, 17] (L2 := [(0, .pointer (some ⟨g98, 0, none⟩)), (2, .int .i64 p105), (6, .slice A123 b9.length c124), (7, .int .i64 x127), (17, .bool (decide (x127 < (b9.length : Int))))]) (obs := []) (by kernel_rfl) ?_ ?_
      · intro w hs; exact trivial
      refine at_thn ?_
      by_cases h138 : x127 < (b9.length : Int)
      · rw [if_pos h138] at H
        refine at_cond_t rfl (decide_eq_true h138) ?_
        refine at_skip ?_
        refine at_thn ?_
        refine at_seq ?_
        refine at_block ?_
        refine at_ops [0, 1, 2, 3, 4, 5, 6] rfl ?_
        obtain ⟨h139, H⟩ := ite_some H
        refine at_seg [0, 1, 2, 3, 4, 5] [6] rfl [(4, .int .i64 (rdA 0 b9 x127))] [0, 2, 6, 7, 20, 24, 25] (L2 := [(0, .pointer (some ⟨g98, 0, none⟩)), (2, .int .i64 p105), (6, .slice A123 b9.length c124), (7, .int .i64 x127), (20, .pointer (some ⟨g98, 0, none⟩)), (24, .int .i64 (rdA 0 b9 x127)), (25, .int .i64 p105)]) (obs := [fun _ => A123.isSome = true ∧ 0 ≤ x127 ∧ x127 < ((b9.length : Nat) : Int), fun w => w.cell? ((A123.getD ad0).add (x127.toNat * 1)) = some (.int .i64 (rdA 0 b9 x127))]) (by kernel_rfl) ?_ ?_
        · intro w hs; exact ⟨⟨ho126.ne x127 h139 h138, h139, h138⟩, ho126.one 0 x127 h139 h138 hs (k := 1) rfl⟩
        refine at_eff rfl rfl ?_
        obtain ⟨b10, H140, H⟩ := bind_some H
        refine eff_call rfl rfl ok67 rfl rfl (show Meets Try.prog 67 ([.pointer (some ⟨g98, 0, none⟩), .int .i64 (rdA 0 b9 x127), .int .i64 p105] : List Value).toArray _ [[(g98, .cells #[.int .i64 x128, .slice A130 x129.length c131, .int .i64 x134] 69 (0, 0))], s132] _ from spec_l09Pen_shown.calls H140 ho133) (Mr := (s125 :: Fs)) (((perm_at (k := 1) rfl).trans ((List.Perm.refl _).cons _)).cons _) (fun v141 J142 M143 hq144 hJ145 => ?_)
        replace hle := hle.trans hJ145
        replace ho126 := ho126.mono hJ145
        replace ho133 := ho133.mono hJ145
        obtain ⟨A146, c147, s148, rfl, rfl, ho149⟩ := hq144
        refine at_end ?_
        refine at_in_norm ?_
        refine at_thn ?_
        refine at_reg [] [0, 2, 6, 7] (L2 := [(0, .pointer (some ⟨g98, 0, none⟩)), (2, .int .i64 p105), (6, .slice A123 b9.length c124), (7, .int .i64 (IntKind.i64.wrap (x127 + 1)))]) (obs := []) (by kernel_rfl) ?_ ?_
        · intro w hs; exact trivial
        refine at_thn ?_
        refine at_perm (((perm_at (k := 1) rfl).trans ((List.Perm.refl _).cons _)).cons _) ?_
        refine at_keep [0, 2, 6, 7] (L2 := [(0, .pointer (some ⟨g98, 0, none⟩)), (2, .int .i64 p105), (6, .slice A123 b9.length c124), (7, .int .i64 (IntKind.i64.wrap (x127 + 1)))]) rfl ?_
        exact ih136 _ (by omega) _ _ _ ⟨IntKind.i64.wrap (x127 + 1), b10.cols, b10.rows, A146, c147, s148, b10.col, rfl, rfl, H, hle, by omega, ho126, ho149⟩
      · rw [if_neg h138] at H
        refine at_cond_f rfl (decide_eq_false h138) ?_
        refine at_exit ?_
        refine at_then_exit ?_
        refine at_then_exit ?_
        refine at_in_hit ?_
        obtain rfl := Option.some.inj H
        refine at_drop (k := 1) rfl rfl ?_
        refine at_eqM (M1 := ([(g98, .cells #[.int .i64 x128, .slice A130 x129.length c131, .int .i64 x134] 69 (0, 0))] :: s132 :: Fs)) (M2 := ([(g98, .cells #[.int .i64 x128, .slice A130 x129.length c131, .int .i64 x134] 69 (0, 0))] :: s132 :: Fs)) rfl rfl ?_
        refine at_done (vs := []) (obs := []) (.inr rfl) [] [] rfl (by kernel_rfl) (fun w hs => trivial) (fun w hs => ⟨_, _, [[(g98, .cells #[.int .i64 x128, .slice A130 x129.length c131, .int .i64 x134] 69 (0, 0))], s132], rfl, ⟨A130, c131, s132, rfl, rfl, ho133⟩, hle, hs⟩)

/-! ### (*loop.example/g00146/spec.l09Pen).spot: function 52 -/
def spec_l09Pen_spot (p105 : T_spec_l09Pen) : Option T_impl_Spot := if p105.col ≥ p105.cols then (some (⟨IntKind.i64.wrap ((IntKind.i64.wrap ((p105.rows.length : Int) - 1)) + 1), 0⟩ : T_impl_Spot)) else (some (⟨IntKind.i64.wrap ((p105.rows.length : Int) - 1), p105.col⟩ : T_impl_Spot))
set_option maxHeartbeats 4000000 in
set_option maxRecDepth 100000 in
theorem spec_l09Pen_spot.calls {p105 : T_spec_l09Pen} {r : T_impl_Spot} {I0 : Imm} {g104 : Nat} {A106 : Option Addr} {c107 : Nat} {s108 : Seg} (H : spec_l09Pen_spot p105 = some r) (ho109 : DOwn (DK.sl k_impl_Cell 71) 36 I0 A106 c107 p105.rows s108) :
    Meets Try.prog 52 ([.pointer (some ⟨g104, 0, none⟩)] : List Value).toArray I0 [[(g104, .cells #[.int .i64 p105.cols, .slice A106 p105.rows.length c107, .int .i64 p105.col] 69 (0, 0))], s108] (fun v J M => v = .agg #[.int .i64 r.Line, .int .i64 r.Col] ∧ M = [[(g104, .cells #[.int .i64 p105.cols, .slice A106 p105.rows.length c107, .int .i64 p105.col] 69 (0, 0))], s108]) := by
  have hle := ImmLe.refl I0
  unfold spec_l09Pen_spot at H
  refine fn_intro (fn := Try.f52) 28 Try.func52 rfl rfl rfl (fun E Fs => ?_)
  refine at_seq ?_
  refine at_ops [0] rfl ?_
  refine at_eff rfl rfl ?_
  obtain ⟨i_, hi_, hz_, _, _⟩ := info31
  refine eff_alloc rfl rfl hi_ hz_ #[.int .i64 0, .int .i64 0] rfl (fun g110 => ?_)
  refine at_end ?_
  refine at_thn ?_
  refine at_seq ?_
  refine at_reg [(3, .slice A106 p105.rows.length c107)] [0, 2, 3] (L2 := [(0, .pointer (some ⟨g104, 0, none⟩)), (2, .pointer (some ⟨g110, 0, none⟩)), (3, .int .i64 (IntKind.i64.wrap ((p105.rows.length : Int) - 1)))]) (obs := [fun w => w.cell? ⟨g104, 1, none⟩ = some (.slice A106 p105.rows.length c107)]) (by kernel_rfl) ?_ ?_
  · intro w hs; exact hs.var (k := 1) rfl 1 rfl
  refine at_thn ?_
  refine at_seq ?_
  refine at_seq ?_
  refine at_regd hmo [(3, .int .i64 p105.col), (7, .int .i64 p105.cols)] [0, 2, 3, 18] (by kernel_rfl) (L2 := [(0, .pointer (some ⟨g104, 0, none⟩)), (2, .pointer (some ⟨g110, 0, none⟩)), (3, .int .i64 (IntKind.i64.wrap ((p105.rows.length : Int) - 1))), (18, .bool (decide (p105.col ≥ p105.cols)))]) (obs := [fun w => w.cell? ⟨g104, 2, none⟩ = some (.int .i64 p105.col), fun w => w.cell? ⟨g104, 0, none⟩ = some (.int .i64 p105.cols)]) (by kernel_rfl) ?_ ?_
  · intro w hs; exact ⟨hs.var (k := 1) rfl 2 rfl, hs.var (k := 1) rfl 0 rfl⟩
  refine at_thn ?_
  by_cases h111 : p105.col ≥ p105.cols
  · rw [if_pos h111] at H
    refine at_cond_t rfl (decide_eq_true h111) ?_
    refine at_seq ?_
    refine at_ops [0, 1, 2, 3] rfl ?_
    refine at_seg [0, 1, 2] [3] rfl [] [2, 21] (L2 := [(2, .pointer (some ⟨g110, 0, none⟩)), (21, .agg #[.int .i64 (IntKind.i64.wrap ((IntKind.i64.wrap ((p105.rows.length : Int) - 1)) + 1)), .int .i64 0])]) (obs := []) (by kernel_rfl) ?_ ?_
    · intro w hs; exact trivial
    refine at_eff rfl rfl ?_
    refine eff_store 0 rfl rfl rfl rfl rfl rfl (.inl (Nat.le_refl _)) rfl (Nat.le_of_ble_eq_true (by kernel_rfl)) rfl ?_
    refine at_eqM (M1 := ([(g110, .cells #[.int .i64 (IntKind.i64.wrap ((IntKind.i64.wrap ((p105.rows.length : Int) - 1)) + 1)), .int .i64 0] 31 (0, 0))] :: [(g104, .cells #[.int .i64 p105.cols, .slice A106 p105.rows.length c107, .int .i64 p105.col] 69 (0, 0))] :: s108 :: Fs)) (M2 := ([(g110, .cells #[.int .i64 (IntKind.i64.wrap ((IntKind.i64.wrap ((p105.rows.length : Int) - 1)) + 1)), .int .i64 0] 31 (0, 0))] :: [(g104, .cells #[.int .i64 p105.cols, .slice A106 p105.rows.length c107, .int .i64 p105.col] 69 (0, 0))] :: s108 :: Fs)) rfl rfl ?_
    refine at_end ?_
    refine at_thn ?_
    refine at_ret ?_
    refine at_then_ret ?_
    obtain rfl := Option.some.inj H
    refine at_perm ((perm_at (k := 1) rfl).trans (((perm_at (k := 1) rfl).trans ((List.Perm.refl _).cons _)).cons _)) ?_
    refine at_done (vs := [.agg #[.int .i64 (IntKind.i64.wrap ((IntKind.i64.wrap ((p105.rows.length : Int) - 1)) + 1)), .int .i64 0]]) (obs := [fun w => CellsAt w ⟨g110, 0, none⟩ [.int .i64 (IntKind.i64.wrap ((IntKind.i64.wrap ((p105.rows.length : Int) - 1)) + 1)), .int .i64 0] 0]) (.inl rfl) [.cell 2 31] [(2, .agg #[.int .i64 (IntKind.i64.wrap ((IntKind.i64.wrap ((p105.rows.length : Int) - 1)) + 1)), .int .i64 0])] rfl (by kernel_rfl) (fun w hs => cellsV (k := 2) hs rfl _ 0 (Nat.le_of_ble_eq_true (by kernel_rfl)) rfl) (fun w hs => ⟨_, _, [[(g104, .cells #[.int .i64 p105.cols, .slice A106 p105.rows.length c107, .int .i64 p105.col] 69 (0, 0))], s108], rfl, ⟨rfl, rfl⟩, hle, (hs.tail (perm_at (k := 2) rfl))⟩)
  · rw [if_neg h111] at H
    refine at_cond_f rfl (decide_eq_false h111) ?_
    refine at_skip ?_
    refine at_thn ?_
    refine at_seq ?_
    refine at_ops [0, 1, 2, 3, 4, 5, 6] rfl ?_
    refine at_seg [0, 1, 2, 3, 4, 5] [6] rfl [(4, .int .i64 p105.col)] [2, 27] (L2 := [(2, .pointer (some ⟨g110, 0, none⟩)), (27, .agg #[.int .i64 (IntKind.i64.wrap ((p105.rows.length : Int) - 1)), .int .i64 p105.col])]) (obs := [fun w => w.cell? ⟨g104, 2, none⟩ = some (.int .i64 p105.col)]) (by kernel_rfl) ?_ ?_
    · intro w hs; exact hs.var (k := 1) rfl 2 rfl
    refine at_eff rfl rfl ?_
    refine eff_store 0 rfl rfl rfl rfl rfl rfl (.inl (Nat.le_refl _)) rfl (Nat.le_of_ble_eq_true (by kernel_rfl)) rfl ?_
    refine at_eqM (M1 := ([(g110, .cells #[.int .i64 (IntKind.i64.wrap ((p105.rows.length : Int) - 1)), .int .i64 p105.col] 31 (0, 0))] :: [(g104, .cells #[.int .i64 p105.cols, .slice A106 p105.rows.length c107, .int .i64 p105.col] 69 (0, 0))] :: s108 :: Fs)) (M2 := ([(g110, .cells #[.int .i64 (IntKind.i64.wrap ((p105.rows.length : Int) - 1)), .int .i64 p105.col] 31 (0, 0))] :: [(g104, .cells #[.int .i64 p105.cols, .slice A106 p105.rows.length c107, .int .i64 p105.col] 69 (0, 0))] :: s108 :: Fs)) rfl rfl ?_
    refine at_end ?_
    refine at_thn ?_
    refine at_ret ?_
    obtain rfl := Option.some.inj H
    refine at_perm ((perm_at (k := 1) rfl).trans (((perm_at (k := 1) rfl).trans ((List.Perm.refl _).cons _)).cons _)) ?_
    refine at_done (vs := [.agg #[.int .i64 (IntKind.i64.wrap ((p105.rows.length : Int) - 1)), .int .i64 p105.col]]) (obs := [fun w => CellsAt w ⟨g110, 0, none⟩ [.int .i64 (IntKind.i64.wrap ((p105.rows.length : Int) - 1)), .int .i64 p105.col] 0]) (.inl rfl) [.cell 2 31] [(2, .agg #[.int .i64 (IntKind.i64.wrap ((p105.rows.length : Int) - 1)), .int .i64 p105.col])] rfl (by kernel_rfl) (fun w hs => cellsV (k := 2) hs rfl _ 0 (Nat.le_of_ble_eq_true (by kernel_rfl)) rfl) (fun w hs => ⟨_, _, [[(g104, .cells #[.int .i64 p105.cols, .slice A106 p105.rows.length c107, .int .i64 p105.col] 69 (0, 0))], s108], rfl, ⟨rfl, rfl⟩, hle, (hs.tail (perm_at (k := 2) rfl))⟩)

/-! ### loop.example/g00146/spec.l01Min: function 53 -/
def spec_l01Min (p112 : Int) (p113 : Int) : Option Int := if p112 < p113 then (some p112) else (some p113)
set_option maxHeartbeats 4000000 in
set_option maxRecDepth 100000 in
theorem spec_l01Min.calls {p112 : Int} {p113 : Int} {r : Int} {I0 : Imm} (H : spec_l01Min p112 p113 = some r) :
    Meets Try.prog 53 ([.int .i64 p112, .int .i64 p113] : List Value).toArray I0 [] (fun v J M => v = .int .i64 r ∧ M = []) := by
  have hle := ImmLe.refl I0
  unfold spec_l01Min at H
  refine fn_intro (fn := Try.f53) 10 Try.func53 rfl rfl rfl (fun E Fs => ?_)
  refine at_seq ?_
  refine at_reg [] [0, 1] (L2 := [(0, .int .i64 p112), (1, .int .i64 p113)]) (obs := []) (by kernel_rfl) ?_ ?_
  · intro w hs; exact trivial
  refine at_thn ?_
  refine at_seq ?_
  refine at_seq ?_
  refine at_reg [] [0, 1, 7] (L2 := [(0, .int .i64 p112), (1, .int .i64 p113), (7, .bool (decide (p112 < p113)))]) (obs := []) (by kernel_rfl) ?_ ?_
  · intro w hs; exact trivial
  refine at_thn ?_
  by_cases h114 : p112 < p113
  · rw [if_pos h114] at H
    refine at_cond_t rfl (decide_eq_true h114) ?_
    refine at_seq ?_
    refine at_reg [] [4] (L2 := [(4, .int .i64 p112)]) (obs := []) (by kernel_rfl) ?_ ?_
    · intro w hs; exact trivial
    refine at_thn ?_
    refine at_ret ?_
    refine at_then_ret ?_
    obtain rfl := Option.some.inj H
    refine at_done (vs := [.int .i64 p112]) (obs := []) (.inl rfl) [.tmp 4] [] rfl (by kernel_rfl) (fun w hs => trivial) (fun w hs => ⟨_, _, [], rfl, ⟨rfl, rfl⟩, hle, hs⟩)
  · rw [if_neg h114] at H
    refine at_cond_f rfl (decide_eq_false h114) ?_
    refine at_skip ?_
    refine at_thn ?_
    refine at_seq ?_
    refine at_reg [] [4] (L2 := [(4, .int .i64 p113)]) (obs := []) (by kernel_rfl) ?_ ?_
    · intro w hs; exact trivial
    refine at_thn ?_
    refine at_ret ?_
    obtain rfl := Option.some.inj H
    refine at_done (vs := [.int .i64 p113]) (obs := []) (.inl rfl) [.tmp 4] [] rfl (by kernel_rfl) (fun w hs => trivial) (fun w hs => ⟨_, _, [], rfl, ⟨rfl, rfl⟩, hle, hs⟩)

/-! ### loop.example/g00146/spec.l01Max: function 32 -/
def spec_l01Max (p118 : Int) (p119 : Int) : Option Int := if p118 > p119 then (some p118) else (some p119)
set_option maxHeartbeats 4000000 in
set_option maxRecDepth 100000 in
theorem spec_l01Max.calls {p118 : Int} {p119 : Int} {r : Int} {I0 : Imm} (H : spec_l01Max p118 p119 = some r) :
    Meets Try.prog 32 ([.int .i64 p118, .int .i64 p119] : List Value).toArray I0 [] (fun v J M => v = .int .i64 r ∧ M = []) := by
  have hle := ImmLe.refl I0
  unfold spec_l01Max at H
  refine fn_intro (fn := Try.f32) 10 Try.func32 rfl rfl rfl (fun E Fs => ?_)
  refine at_seq ?_
  refine at_reg [] [0, 1] (L2 := [(0, .int .i64 p118), (1, .int .i64 p119)]) (obs := []) (by kernel_rfl) ?_ ?_
  · intro w hs; exact trivial
  refine at_thn ?_
  refine at_seq ?_
  refine at_seq ?_
  refine at_reg [] [0, 1, 7] (L2 := [(0, .int .i64 p118), (1, .int .i64 p119), (7, .bool (decide (p118 > p119)))]) (obs := []) (by kernel_rfl) ?_ ?_
  · intro w hs; exact trivial
  refine at_thn ?_
  by_cases h120 : p118 > p119
  · rw [if_pos h120] at H
    refine at_cond_t rfl (decide_eq_true h120) ?_
    refine at_seq ?_
    refine at_reg [] [4] (L2 := [(4, .int .i64 p118)]) (obs := []) (by kernel_rfl) ?_ ?_
    · intro w hs; exact trivial
    refine at_thn ?_
    refine at_ret ?_
    refine at_then_ret ?_
    obtain rfl := Option.some.inj H
    refine at_done (vs := [.int .i64 p118]) (obs := []) (.inl rfl) [.tmp 4] [] rfl (by kernel_rfl) (fun w hs => trivial) (fun w hs => ⟨_, _, [], rfl, ⟨rfl, rfl⟩, hle, hs⟩)
  · rw [if_neg h120] at H
    refine at_cond_f rfl (decide_eq_false h120) ?_
    refine at_skip ?_
    refine at_thn ?_
    refine at_seq ?_
    refine at_reg [] [4] (L2 := [(4, .int .i64 p119)]) (obs := []) (by kernel_rfl) ?_ ?_
    · intro w hs; exact trivial
    refine at_thn ?_
    refine at_ret ?_
    obtain rfl := Option.some.inj H
    refine at_done (vs := [.int .i64 p119]) (obs := []) (.inl rfl) [.tmp 4] [] rfl (by kernel_rfl) (fun w hs => trivial) (fun w hs => ⟨_, _, [], rfl, ⟨rfl, rfl⟩, hle, hs⟩)

/-! ### loop.example/g00146/spec.l09Lay: function 27 -/
mutual
def spec_l09Lay_l1 : Nat → Int → Int → (List (List T_impl_Cell)) → Int → (List Int) → T_impl_Buf → Bool → Option (T_spec_l09Pen × (List T_impl_Spot))
  | 0, _, _, _, _, _, _, _ => none
  | k + 1, x374, x375, x376, x381, p73, p77, p81 => if x374 < (p73.length : Int) then (if 0 ≤ x374 then ((spec_l09Pen_point k (⟨x375, x376, x381⟩ : T_spec_l09Pen) (rdA 0 p73 x374) 0).bind fun b13 => (spec_l09Lay_l1 k (IntKind.i64.wrap (x374 + 1)) b13.cols b13.rows b13.col p73 p77 p81)) else none) else (spec_l09Lay_j0 k x375 x376 x381 p77 p81)
def spec_l09Lay_j0 : Nat → Int → (List (List T_impl_Cell)) → Int → T_impl_Buf → Bool → Option (T_spec_l09Pen × (List T_impl_Spot))
  | 0, _, _, _, _, _ => none
  | k + 1, x197, x198, x203, p77, p81 => (spec_l09Pen_spot (⟨x197, x198, x203⟩ : T_spec_l09Pen)).bind fun b8 => ((spec_l01Min p77.Cursor p77.Mark).bind fun b9 => ((spec_l01Max p77.Cursor p77.Mark).bind fun b10 => (spec_l09Lay_l0 k ([b8] : List T_impl_Spot) 0 x197 x198 x203 b9 b10 p77 p81)))
def spec_l09Lay_l0 : Nat → (List T_impl_Spot) → Int → Int → (List (List T_impl_Cell)) → Int → Int → Int → T_impl_Buf → Bool → Option (T_spec_l09Pen × (List T_impl_Spot))
  | 0, _, _, _, _, _, _, _, _, _ => none
  | k + 1, x226, x231, x232, x233, x238, b9, b10, p77, p81 => if x231 < (p77.Points.length : Int) then (if p81 = true then (if x231 ≥ b9 then (if x231 < b10 then (spec_l09Lay_j1 k 1 b9 b10 p77 p81 x226 x231 x232 x233 x238) else (spec_l09Lay_j1 k 0 b9 b10 p77 p81 x226 x231 x232 x233 x238)) else (spec_l09Lay_j1 k 0 b9 b10 p77 p81 x226 x231 x232 x233 x238)) else (spec_l09Lay_j1 k 0 b9 b10 p77 p81 x226 x231 x232 x233 x238)) else (some ((⟨x232, x233, x238⟩ : T_spec_l09Pen), x226))
def spec_l09Lay_j1 : Nat → Int → Int → Int → T_impl_Buf → Bool → (List T_impl_Spot) → Int → Int → (List (List T_impl_Cell)) → Int → Option (T_spec_l09Pen × (List T_impl_Spot))
  | 0, _, _, _, _, _, _, _, _, _, _ => none
  | k + 1, x344, b9, b10, p77, p81, x226, x231, x232, x233, x238 => if 0 ≤ x231 then ((spec_l09Pen_point k (⟨x232, x233, x238⟩ : T_spec_l09Pen) (rdA 0 p77.Points x231) x344).bind fun b11 => ((spec_l09Pen_spot b11).bind fun b12 => (if x226.length + ([b12] : List T_impl_Spot).length ≤ 8796093022208 then (spec_l09Lay_l0 k (x226 ++ ([b12] : List T_impl_Spot)) (IntKind.i64.wrap (x231 + 1)) b11.cols b11.rows b11.col b9 b10 p77 p81) else none))) else none
end
def spec_l09Lay (k : Nat) (p73 : List Int) (p77 : T_impl_Buf) (p81 : Bool) (p82 : Int) : Option (T_spec_l09Pen × (List T_impl_Spot)) := (spec_l09Pen_next (⟨p82, ([] : List (List T_impl_Cell)), 0⟩ : T_spec_l09Pen)).bind fun b7 => (spec_l09Lay_l1 k 0 b7.cols b7.rows b7.col p73 p77 p81)
set_option maxHeartbeats 4000000 in
set_option maxRecDepth 100000 in
theorem spec_l09Lay.calls {k : Nat} {p73 : List Int} {p77 : T_impl_Buf} {p81 : Bool} {p82 : Int} {r : T_spec_l09Pen × (List T_impl_Spot)} {I0 : Imm} {A74 : Option Addr} {c75 : Nat} {A78 : Option Addr} {c79 : Nat} (H : spec_l09Lay k p73 p77 p81 p82 = some r) (hr76 : Rd (Kd.int .i64) I0 A74 c75 p73) (hr80 : Rd (Kd.int .i64) I0 A78 c79 p77.Points) :
    Meets Try.prog 27 ([.slice A74 p73.length c75, .agg #[.slice A78 p77.Points.length c79, .int .i64 p77.Cursor, .int .i64 p77.Mark], .bool p81, .int .i64 p82] : List Value).toArray I0 [] (fun v J M => ∃ (g_1 : Nat) (A_2 : Option Addr) (c_3 : Nat) (s_4 : Seg) (A_5 : Option Addr) (c_6 : Nat) (s_7 : Seg), v = .tuple #[.pointer (some ⟨g_1, 0, none⟩), .slice A_5 r.2.length c_6] ∧ M = [[(g_1, .cells #[.int .i64 r.1.cols, .slice A_2 r.1.rows.length c_3, .int .i64 r.1.col] 69 (0, 0))], s_4, s_7] ∧ DOwn (DK.sl k_impl_Cell 71) 36 J A_2 c_3 r.1.rows s_4 ∧ Own k_impl_Spot 31 J A_5 c_6 r.2 s_7) := by
  have hle := ImmLe.refl I0
  unfold spec_l09Lay at H
  refine fn_intro (fn := Try.f27) 80 Try.func27 rfl rfl rfl (fun E Fs => ?_)
  refine at_seq ?_
  refine at_ops [0, 1, 2] rfl ?_
  refine at_eff rfl rfl ?_
  refine eff_box rfl rfl rfl #[.slice A78 p77.Points.length c79, .int .i64 p77.Cursor, .int .i64 p77.Mark] rfl (fun g83 => ?_)
  refine at_seg [1, 2] [] rfl [] [0, 2, 3, 5] (L2 := [(0, .slice A74 p73.length c75), (2, .bool p81), (3, .int .i64 p82), (5, .pointer (some ⟨g83, 0, none⟩))]) (obs := []) (by kernel_rfl) ?_ ?_
  · intro w hs; exact trivial
  refine at_end ?_
  refine at_thn ?_
  refine at_seq ?_
  refine at_ops [0, 1, 2, 3] rfl ?_
  refine at_seg [0, 1] [2, 3] rfl [] [0, 2, 5, 18] (L2 := [(0, .slice A74 p73.length c75), (2, .bool p81), (5, .pointer (some ⟨g83, 0, none⟩)), (18, .agg #[.int .i64 p82, .slice none ([] : List (List T_impl_Cell)).length 0, .int .i64 0])]) (obs := []) (by kernel_rfl) ?_ ?_
  · intro w hs; exact trivial
  refine at_eff rfl rfl ?_
  refine eff_box rfl rfl rfl #[.int .i64 p82, .slice none ([] : List (List T_impl_Cell)).length 0, .int .i64 0] rfl (fun g84 => ?_)
  refine at_seg [3] [] rfl [] [0, 2, 5, 10] (L2 := [(0, .slice A74 p73.length c75), (2, .bool p81), (5, .pointer (some ⟨g83, 0, none⟩)), (10, .pointer (some ⟨g84, 0, none⟩))]) (obs := []) (by kernel_rfl) ?_ ?_
  · intro w hs; exact trivial
  refine at_end ?_
  refine at_thn ?_
  refine at_seq ?_
  refine at_ops [0, 1] rfl ?_
  refine at_seg [0] [1] rfl [] [0, 2, 5, 10, 20] (L2 := [(0, .slice A74 p73.length c75), (2, .bool p81), (5, .pointer (some ⟨g83, 0, none⟩)), (10, .pointer (some ⟨g84, 0, none⟩)), (20, .pointer (some ⟨g84, 0, none⟩))]) (obs := []) (by kernel_rfl) ?_ ?_
  · intro w hs; exact trivial
  refine at_eff rfl rfl ?_
  refine at_nilseg ?_
  have hd85 := DOwn.nil (DK.sl k_impl_Cell 71) 36 I0
  obtain ⟨b7, H86, H⟩ := bind_some H
  refine eff_call rfl rfl ok50 rfl rfl (show Meets Try.prog 50 ([.pointer (some ⟨g84, 0, none⟩)] : List Value).toArray _ [[(g84, .cells #[.int .i64 p82, .slice none ([] : List (List T_impl_Cell)).length 0, .int .i64 0] 69 (0, 0))], []] _ from spec_l09Pen_next.calls H86 hd85) (Mr := ([(g83, .cells #[.slice A78 p77.Points.length c79, .int .i64 p77.Cursor, .int .i64 p77.Mark] 25 (0, 0))] :: Fs)) ((perm_at (k := 1) rfl).trans ((List.Perm.refl _).cons _)) (fun v87 J88 M89 hq90 hJ91 => ?_)
  replace hle := hle.trans hJ91
  replace hd85 := hd85.mono hJ91
  replace hr76 := hr76.mono hJ91
  replace hr80 := hr80.mono hJ91
  obtain ⟨A92, c93, s94, rfl, rfl, ho95⟩ := hq90
  refine at_end ?_
  refine at_thn ?_
  refine at_join (fun L I Ms => ∃ (k204 : Nat), ∃ (x197 : Int) (x198 : List (List T_impl_Cell)) (A199 : Option Addr) (c200 : Nat) (s201 : Seg) (x203 : Int), L = [(2, .bool p81), (5, .pointer (some ⟨g83, 0, none⟩)), (10, .pointer (some ⟨g84, 0, none⟩))] ∧ Ms = ([(g83, .cells #[.slice A78 p77.Points.length c79, .int .i64 p77.Cursor, .int .i64 p77.Mark] 25 (0, 0))] :: [(g84, .cells #[.int .i64 x197, .slice A199 x198.length c200, .int .i64 x203] 69 (0, 0))] :: s201 :: Fs) ∧ spec_l09Lay_j0 k204 x197 x198 x203 p77 p81 = some r ∧ ImmLe I0 I ∧ k204 ≤ k ∧ DOwn (DK.sl k_impl_Cell 71) 36 I A199 c200 x198 s201 ∧ Rd (Kd.int .i64) I A78 c79 p77.Points) ?_ ?_
  · clear H hle ho95 hr76 hr80
    intro L I Ms h_; obtain ⟨k204, x197, x198, A199, c200, s201, x203, hL_, hM_, H, hle, hk205, ho202, hr80⟩ := h_; rw [hL_, hM_]; clear hL_ hM_ L Ms
    rcases k204 with _ | k204
    · exact (no_none H).elim
    rw [spec_l09Lay_j0] at H
    refine at_seq ?_
    refine at_ops [0, 1, 2, 3] rfl ?_
    refine at_seg [0] [1, 2, 3] rfl [] [2, 5, 10, 34] (L2 := [(2, .bool p81), (5, .pointer (some ⟨g83, 0, none⟩)), (10, .pointer (some ⟨g84, 0, none⟩)), (34, .pointer (some ⟨g84, 0, none⟩))]) (obs := []) (by kernel_rfl) ?_ ?_
    · intro w hs; exact trivial
    refine at_eff rfl rfl ?_
    obtain ⟨b8, H206, H⟩ := bind_some H
    refine eff_call rfl rfl ok52 rfl rfl (show Meets Try.prog 52 ([.pointer (some ⟨g84, 0, none⟩)] : List Value).toArray _ [[(g84, .cells #[.int .i64 x197, .slice A199 x198.length c200, .int .i64 x203] 69 (0, 0))], s201] _ from spec_l09Pen_spot.calls H206 ho202) (Mr := ([(g83, .cells #[.slice A78 p77.Points.length c79, .int .i64 p77.Cursor, .int .i64 p77.Mark] 25 (0, 0))] :: Fs)) ((perm_at (k := 1) rfl).trans (((perm_at (k := 1) rfl).trans ((List.Perm.refl _).cons _)).cons _)) (fun v207 J208 M209 hq210 hJ211 => ?_)
    replace hle := hle.trans hJ211
    replace ho202 := ho202.mono hJ211
    replace hr80 := hr80.mono hJ211
    obtain ⟨rfl, rfl⟩ := hq210
    refine at_eff rfl rfl ?_
    refine eff_buildSlice (e := 31) (cells := #[.int .i64 b8.Line, .int .i64 b8.Col]) ([b8] : List T_impl_Spot).length rfl rfl rfl (by kernel_rfl) (fun g212 => ?_)
    have ho213 := own_lit (K := k_impl_Spot) (e := 31) (I := J208) (xs := ([b8] : List T_impl_Spot)) (css := [[.int .i64 b8.Line, .int .i64 b8.Col]]) (cells := #[.int .i64 b8.Line, .int .i64 b8.Col]) (b := g212) ⟨rfl, trivial⟩ rfl
    refine at_seg [3] [] rfl [] [2, 5, 10, 12] (L2 := [(2, .bool p81), (5, .pointer (some ⟨g83, 0, none⟩)), (10, .pointer (some ⟨g84, 0, none⟩)), (12, .slice (some ⟨g212, 0, none⟩ : Option Addr) ([b8] : List T_impl_Spot).length (([b8] : List T_impl_Spot).length))]) (obs := []) (by kernel_rfl) ?_ ?_
    · intro w hs; exact trivial
    refine at_end ?_
    refine at_thn ?_
    refine at_seq ?_
    refine at_ops [0, 1, 2, 3, 4, 5] rfl ?_
    refine at_seg [0, 1, 2, 3] [4, 5] rfl [(1, .int .i64 p77.Cursor), (3, .int .i64 p77.Mark)] [2, 5, 10, 12, 38, 40] (L2 := [(2, .bool p81), (5, .pointer (some ⟨g83, 0, none⟩)), (10, .pointer (some ⟨g84, 0, none⟩)), (12, .slice (some ⟨g212, 0, none⟩ : Option Addr) ([b8] : List T_impl_Spot).length (([b8] : List T_impl_Spot).length)), (38, .int .i64 p77.Cursor), (40, .int .i64 p77.Mark)]) (obs := [fun w => w.cell? ⟨g83, 1, none⟩ = some (.int .i64 p77.Cursor), fun w => w.cell? ⟨g83, 2, none⟩ = some (.int .i64 p77.Mark)]) (by kernel_rfl) ?_ ?_
    · intro w hs; exact ⟨hs.var (k := 3) rfl 1 rfl, hs.var (k := 3) rfl 2 rfl⟩
    refine at_eff rfl rfl ?_
    obtain ⟨b9, H214, H⟩ := bind_some H
    have hm_ := spec_l01Min.calls (I0 := J208) H214
    refine eff_call rfl rfl ok53 rfl rfl (show Meets Try.prog 53 ([.int .i64 p77.Cursor, .int .i64 p77.Mark] : List Value).toArray _ [] _ from hm_) (Mr := ([(g212, .cells #[.int .i64 b8.Line, .int .i64 b8.Col] 31 (0, 0))] :: [(g84, .cells #[.int .i64 x197, .slice A199 x198.length c200, .int .i64 x203] 69 (0, 0))] :: s201 :: [(g83, .cells #[.slice A78 p77.Points.length c79, .int .i64 p77.Cursor, .int .i64 p77.Mark] 25 (0, 0))] :: Fs)) (List.Perm.refl _) (fun v215 J216 M217 hq218 hJ219 => ?_)
    replace hle := hle.trans hJ219
    replace ho202 := ho202.mono hJ219
    replace ho213 := ho213.mono hJ219
    replace hr80 := hr80.mono hJ219
    obtain ⟨rfl, rfl⟩ := hq218
    refine at_seg [5] [] rfl [] [2, 5, 10, 12, 13] (L2 := [(2, .bool p81), (5, .pointer (some ⟨g83, 0, none⟩)), (10, .pointer (some ⟨g84, 0, none⟩)), (12, .slice (some ⟨g212, 0, none⟩ : Option Addr) ([b8] : List T_impl_Spot).length (([b8] : List T_impl_Spot).length)), (13, .int .i64 b9)]) (obs := []) (by kernel_rfl) ?_ ?_
    · intro w hs; exact trivial
    refine at_end ?_
    refine at_thn ?_
    refine at_seq ?_
    refine at_ops [0, 1, 2, 3, 4, 5] rfl ?_
    refine at_seg [0, 1, 2, 3] [4, 5] rfl [(1, .int .i64 p77.Cursor), (3, .int .i64 p77.Mark)] [2, 5, 10, 12, 13, 43, 45] (L2 := [(2, .bool p81), (5, .pointer (some ⟨g83, 0, none⟩)), (10, .pointer (some ⟨g84, 0, none⟩)), (12, .slice (some ⟨g212, 0, none⟩ : Option Addr) ([b8] : List T_impl_Spot).length (([b8] : List T_impl_Spot).length)), (13, .int .i64 b9), (43, .int .i64 p77.Cursor), (45, .int .i64 p77.Mark)]) (obs := [fun w => w.cell? ⟨g83, 1, none⟩ = some (.int .i64 p77.Cursor), fun w => w.cell? ⟨g83, 2, none⟩ = some (.int .i64 p77.Mark)]) (by kernel_rfl) ?_ ?_
    · intro w hs; exact ⟨hs.var (k := 3) rfl 1 rfl, hs.var (k := 3) rfl 2 rfl⟩
    refine at_eff rfl rfl ?_
    obtain ⟨b10, H220, H⟩ := bind_some H
    have hm_ := spec_l01Max.calls (I0 := J216) H220
    refine eff_call rfl rfl ok32 rfl rfl (show Meets Try.prog 32 ([.int .i64 p77.Cursor, .int .i64 p77.Mark] : List Value).toArray _ [] _ from hm_) (Mr := ([(g212, .cells #[.int .i64 b8.Line, .int .i64 b8.Col] 31 (0, 0))] :: [(g84, .cells #[.int .i64 x197, .slice A199 x198.length c200, .int .i64 x203] 69 (0, 0))] :: s201 :: [(g83, .cells #[.slice A78 p77.Points.length c79, .int .i64 p77.Cursor, .int .i64 p77.Mark] 25 (0, 0))] :: Fs)) (List.Perm.refl _) (fun v221 J222 M223 hq224 hJ225 => ?_)
    replace hle := hle.trans hJ225
    replace ho202 := ho202.mono hJ225
    replace ho213 := ho213.mono hJ225
    replace hr80 := hr80.mono hJ225
    obtain ⟨rfl, rfl⟩ := hq224
    refine at_seg [5] [] rfl [] [2, 5, 10, 12, 13, 14] (L2 := [(2, .bool p81), (5, .pointer (some ⟨g83, 0, none⟩)), (10, .pointer (some ⟨g84, 0, none⟩)), (12, .slice (some ⟨g212, 0, none⟩ : Option Addr) ([b8] : List T_impl_Spot).length (([b8] : List T_impl_Spot).length)), (13, .int .i64 b9), (14, .int .i64 b10)]) (obs := []) (by kernel_rfl) ?_ ?_
    · intro w hs; exact trivial
    refine at_end ?_
    refine at_thn ?_
    refine at_seq ?_
    refine at_seq ?_
    refine at_reg [] [2, 5, 10, 12, 13, 14, 15] (L2 := [(2, .bool p81), (5, .pointer (some ⟨g83, 0, none⟩)), (10, .pointer (some ⟨g84, 0, none⟩)), (12, .slice (some ⟨g212, 0, none⟩ : Option Addr) ([b8] : List T_impl_Spot).length (([b8] : List T_impl_Spot).length)), (13, .int .i64 b9), (14, .int .i64 b10), (15, .int .i64 0)]) (obs := []) (by kernel_rfl) ?_ ?_
    · intro w hs; exact trivial
    refine at_thn ?_
    refine at_block ?_
    refine at_perm ((perm_at (k := 3) rfl).trans (((perm_at (k := 1) rfl).trans ((List.Perm.refl _).cons _)).cons _)) ?_
    refine at_keep [2, 5, 10, 12, 13, 14, 15] (L2 := [(2, .bool p81), (5, .pointer (some ⟨g83, 0, none⟩)), (10, .pointer (some ⟨g84, 0, none⟩)), (12, .slice (some ⟨g212, 0, none⟩ : Option Addr) ([b8] : List T_impl_Spot).length (([b8] : List T_impl_Spot).length)), (13, .int .i64 b9), (14, .int .i64 b10), (15, .int .i64 0)]) rfl ?_
    refine at_loop (fun k239 L I Ms => ∃ (x226 : List T_impl_Spot) (A227 : Option Addr) (c228 : Nat) (s229 : Seg) (x231 : Int) (x232 : Int) (x233 : List (List T_impl_Cell)) (A234 : Option Addr) (c235 : Nat) (s236 : Seg) (x238 : Int), L = [(2, .bool p81), (5, .pointer (some ⟨g83, 0, none⟩)), (10, .pointer (some ⟨g84, 0, none⟩)), (12, .slice A227 x226.length c228), (13, .int .i64 b9), (14, .int .i64 b10), (15, .int .i64 x231)] ∧ Ms = ([(g83, .cells #[.slice A78 p77.Points.length c79, .int .i64 p77.Cursor, .int .i64 p77.Mark] 25 (0, 0))] :: [(g84, .cells #[.int .i64 x232, .slice A234 x233.length c235, .int .i64 x238] 69 (0, 0))] :: s229 :: s236 :: Fs) ∧ spec_l09Lay_l0 k239 x226 x231 x232 x233 x238 b9 b10 p77 p81 = some r ∧ ImmLe I0 I ∧ k239 ≤ k204 ∧ Own k_impl_Spot 31 I A227 c228 x226 s229 ∧ DOwn (DK.sl k_impl_Cell 71) 36 I A234 c235 x233 s236 ∧ Rd (Kd.int .i64) I A78 c79 p77.Points) ?_ ?_ k204 ⟨([b8] : List T_impl_Spot), (some ⟨g212, 0, none⟩ : Option Addr), ([b8] : List T_impl_Spot).length, [(g212, .cells #[.int .i64 b8.Line, .int .i64 b8.Col] 31 (0, 0))], 0, x197, x198, A199, c200, s201, x203, rfl, rfl, H, hle, Nat.le_refl _, ho213, ho202, hr80⟩
    · rintro L I Ms ⟨_, _, _, _, _, _, _, _, _, _, _, rfl, rfl, H, _⟩; exact no_none H
    · clear H hle ho202 ho213 hr80
      intro k239 ih240 L I Ms h_; obtain ⟨x226, A227, c228, s229, x231, x232, x233, A234, c235, s236, x238, hL_, hM_, H, hle, hk241, ho230, ho237, hr80⟩ := h_; rw [hL_, hM_]; clear hL_ hM_ L Ms
      rw [spec_l09Lay_l0] at H
      refine at_seq ?_
      refine at_seq ?_
      refine at_reg [(2, .slice A78 p77.Points.length c79)] [2, 5, 10, 12, 13, 14, 15, 51] (L2 := [(2, .bool p81), (5, .pointer (some ⟨g83, 0, none⟩)), (10, .pointer (some ⟨g84, 0, none⟩)), (12, .slice A227 x226.length c228), (13, .int .i64 b9), (14, .int .i64 b10), (15, .int .i64 x231), (51, .bool (decide (x231 < (p77.Points.length : Int))))]) (obs := [fun w => w.cell? ⟨g83, 0, none⟩ = some (.slice A78 p77.Points.length c79)]) (by kernel_rfl) ?_ ?_
      · intro w hs; exact hs.var (k := 0) rfl 0 rfl
      refine at_thn ?_
      by_cases h242 : x231 < (p77.Points.length : Int)
      · rw [if_pos h242] at H
        refine at_cond_t rfl (decide_eq_true h242) ?_
        refine at_skip ?_
        refine at_thn ?_
        refine at_seq ?_
        refine at_block ?_
        refine at_seq ?_
        refine at_reg [] [2, 5, 10, 12, 13, 14, 15, 16] (L2 := [(2, .bool p81), (5, .pointer (some ⟨g83, 0, none⟩)), (10, .pointer (some ⟨g84, 0, none⟩)), (12, .slice A227 x226.length c228), (13, .int .i64 b9), (14, .int .i64 b10), (15, .int .i64 x231), (16, .int .i64 0)]) (obs := []) (by kernel_rfl) ?_ ?_
        · intro w hs; exact trivial
        refine at_thn ?_
        refine at_join (fun L I Ms => ∃ (k345 : Nat), ∃ (x344 : Int), L = [(2, .bool p81), (5, .pointer (some ⟨g83, 0, none⟩)), (10, .pointer (some ⟨g84, 0, none⟩)), (12, .slice A227 x226.length c228), (13, .int .i64 b9), (14, .int .i64 b10), (15, .int .i64 x231), (16, .int .i64 x344)] ∧ Ms = ([(g83, .cells #[.slice A78 p77.Points.length c79, .int .i64 p77.Cursor, .int .i64 p77.Mark] 25 (0, 0))] :: [(g84, .cells #[.int .i64 x232, .slice A234 x233.length c235, .int .i64 x238] 69 (0, 0))] :: s229 :: s236 :: Fs) ∧ spec_l09Lay_j1 k345 x344 b9 b10 p77 p81 x226 x231 x232 x233 x238 = some r ∧ ImmLe I0 I ∧ k345 ≤ k239 ∧ Own k_impl_Spot 31 I A227 c228 x226 s229 ∧ DOwn (DK.sl k_impl_Cell 71) 36 I A234 c235 x233 s236 ∧ Rd (Kd.int .i64) I A78 c79 p77.Points) ?_ ?_
        · clear H hle ho230 ho237 hr80
          intro L I Ms h_; obtain ⟨k345, x344, hL_, hM_, H, hle, hk346, ho230, ho237, hr80⟩ := h_; rw [hL_, hM_]; clear hL_ hM_ L Ms
          rcases k345 with _ | k345
          · exact (no_none H).elim
          rw [spec_l09Lay_j1] at H
          refine at_seq ?_
          refine at_ops [0, 1, 2, 3, 4, 5, 6, 7] rfl ?_
          obtain ⟨h347, H⟩ := ite_some H
          refine at_seg [0, 1, 2, 3, 4, 5, 6] [7] rfl [(2, .slice A78 p77.Points.length c79), (5, .int .i64 (rdA 0 p77.Points x231))] [2, 5, 10, 12, 13, 14, 15, 65, 70, 71] (L2 := [(2, .bool p81), (5, .pointer (some ⟨g83, 0, none⟩)), (10, .pointer (some ⟨g84, 0, none⟩)), (12, .slice A227 x226.length c228), (13, .int .i64 b9), (14, .int .i64 b10), (15, .int .i64 x231), (65, .pointer (some ⟨g84, 0, none⟩)), (70, .int .i64 (rdA 0 p77.Points x231)), (71, .int .i64 x344)]) (obs := [fun w => w.cell? ⟨g83, 0, none⟩ = some (.slice A78 p77.Points.length c79), fun _ => A78.isSome = true ∧ 0 ≤ x231 ∧ x231 < ((p77.Points.length : Nat) : Int), fun w => w.cell? ((A78.getD ad0).add (x231.toNat * 1)) = some (.int .i64 (rdA 0 p77.Points x231))]) (by kernel_rfl) ?_ ?_
          · intro w hs; exact ⟨hs.var (k := 0) rfl 0 rfl, ⟨hr80.ne x231 h347 h242, h347, h242⟩, hr80.one 0 x231 h347 h242 hs⟩
          refine at_eff rfl rfl ?_
          obtain ⟨b11, H348, H⟩ := bind_some H
          refine eff_call rfl rfl ok51 rfl rfl (show Meets Try.prog 51 ([.pointer (some ⟨g84, 0, none⟩), .int .i64 (rdA 0 p77.Points x231), .int .i64 x344] : List Value).toArray _ [[(g84, .cells #[.int .i64 x232, .slice A234 x233.length c235, .int .i64 x238] 69 (0, 0))], s236] _ from spec_l09Pen_point.calls H348 ho237) (Mr := ([(g83, .cells #[.slice A78 p77.Points.length c79, .int .i64 p77.Cursor, .int .i64 p77.Mark] 25 (0, 0))] :: s229 :: Fs)) ((perm_at (k := 1) rfl).trans (((perm_at (k := 2) rfl).trans ((List.Perm.refl _).cons _)).cons _)) (fun v349 J350 M351 hq352 hJ353 => ?_)
          replace hle := hle.trans hJ353
          replace ho230 := ho230.mono hJ353
          replace ho237 := ho237.mono hJ353
          replace hr80 := hr80.mono hJ353
          obtain ⟨A354, c355, s356, rfl, rfl, ho357⟩ := hq352
          refine at_end ?_
          refine at_thn ?_
          refine at_ops [0, 1, 2, 3, 4, 5] rfl ?_
          refine at_seg [0, 1] [2, 3, 4, 5] rfl [] [2, 5, 10, 12, 13, 14, 15, 73, 74] (L2 := [(2, .bool p81), (5, .pointer (some ⟨g83, 0, none⟩)), (10, .pointer (some ⟨g84, 0, none⟩)), (12, .slice A227 x226.length c228), (13, .int .i64 b9), (14, .int .i64 b10), (15, .int .i64 x231), (73, .slice A227 x226.length c228), (74, .pointer (some ⟨g84, 0, none⟩))]) (obs := []) (by kernel_rfl) ?_ ?_
          · intro w hs; exact trivial
          refine at_eff rfl rfl ?_
          obtain ⟨b12, H358, H⟩ := bind_some H
          refine eff_call rfl rfl ok52 rfl rfl (show Meets Try.prog 52 ([.pointer (some ⟨g84, 0, none⟩)] : List Value).toArray _ [[(g84, .cells #[.int .i64 b11.cols, .slice A354 b11.rows.length c355, .int .i64 b11.col] 69 (0, 0))], s356] _ from spec_l09Pen_spot.calls H358 ho357) (Mr := ([(g83, .cells #[.slice A78 p77.Points.length c79, .int .i64 p77.Cursor, .int .i64 p77.Mark] 25 (0, 0))] :: s229 :: Fs)) (List.Perm.refl _) (fun v359 J360 M361 hq362 hJ363 => ?_)
          replace hle := hle.trans hJ363
          replace ho230 := ho230.mono hJ363
          replace ho357 := ho357.mono hJ363
          replace hr80 := hr80.mono hJ363
          obtain ⟨rfl, rfl⟩ := hq362
          refine at_eff rfl rfl ?_
          refine eff_buildSlice (e := 31) (cells := #[.int .i64 b12.Line, .int .i64 b12.Col]) ([b12] : List T_impl_Spot).length rfl rfl rfl (by kernel_rfl) (fun g364 => ?_)
          have ho365 := own_lit (K := k_impl_Spot) (e := 31) (I := J360) (xs := ([b12] : List T_impl_Spot)) (css := [[.int .i64 b12.Line, .int .i64 b12.Col]]) (cells := #[.int .i64 b12.Line, .int .i64 b12.Col]) (b := g364) ⟨rfl, trivial⟩ rfl
          refine at_eff rfl rfl ?_
          obtain ⟨h366, H⟩ := ite_some H
          obtain ⟨i_, hi_, hz_, hs_, hb_⟩ := info31
          refine eff_append (K := k_impl_Spot) (xs := x226) (ys := ([b12] : List T_impl_Spot)) 4 rfl rfl rfl rfl rfl und57 und57 hi_ hz_ hs_ rfl rfl rfl ho230 rfl (fun w hs => ho365.rowAt (k := 0) hs rfl) (by rw [hb_]; omega) (by omega) (fun A367 c368 s369 ho370 => ?_)
          refine at_seg [5] [] rfl [] [2, 5, 10, 12, 13, 14, 15] (L2 := [(2, .bool p81), (5, .pointer (some ⟨g83, 0, none⟩)), (10, .pointer (some ⟨g84, 0, none⟩)), (12, .slice A367 (x226 ++ ([b12] : List T_impl_Spot)).length c368), (13, .int .i64 b9), (14, .int .i64 b10), (15, .int .i64 x231)]) (obs := []) (by kernel_rfl) ?_ ?_
          · intro w hs; exact trivial
          refine at_end ?_
          refine at_in_norm ?_
          refine at_thn ?_
          refine at_reg [] [2, 5, 10, 12, 13, 14, 15] (L2 := [(2, .bool p81), (5, .pointer (some ⟨g83, 0, none⟩)), (10, .pointer (some ⟨g84, 0, none⟩)), (12, .slice A367 (x226 ++ ([b12] : List T_impl_Spot)).length c368), (13, .int .i64 b9), (14, .int .i64 b10), (15, .int .i64 (IntKind.i64.wrap (x231 + 1)))]) (obs := []) (by kernel_rfl) ?_ ?_
          · intro w hs; exact trivial
          refine at_thn ?_
          refine at_drop (k := 0) rfl rfl ?_
          refine at_eqM (M1 := ([(g84, .cells #[.int .i64 b11.cols, .slice A354 b11.rows.length c355, .int .i64 b11.col] 69 (0, 0))] :: s356 :: [(g83, .cells #[.slice A78 p77.Points.length c79, .int .i64 p77.Cursor, .int .i64 p77.Mark] 25 (0, 0))] :: s369 :: Fs)) (M2 := ([(g84, .cells #[.int .i64 b11.cols, .slice A354 b11.rows.length c355, .int .i64 b11.col] 69 (0, 0))] :: s356 :: [(g83, .cells #[.slice A78 p77.Points.length c79, .int .i64 p77.Cursor, .int .i64 p77.Mark] 25 (0, 0))] :: s369 :: Fs)) rfl rfl ?_
          refine at_perm ((perm_at (k := 2) rfl).trans ((((perm_at (k := 1) rfl).trans ((List.Perm.refl _).cons _)).cons _).cons _)) ?_
          refine at_keep [2, 5, 10, 12, 13, 14, 15] (L2 := [(2, .bool p81), (5, .pointer (some ⟨g83, 0, none⟩)), (10, .pointer (some ⟨g84, 0, none⟩)), (12, .slice A367 (x226 ++ ([b12] : List T_impl_Spot)).length c368), (13, .int .i64 b9), (14, .int .i64 b10), (15, .int .i64 (IntKind.i64.wrap (x231 + 1)))]) rfl ?_
          exact ih240 _ (by omega) _ _ _ ⟨(x226 ++ ([b12] : List T_impl_Spot)), A367, c368, s369, IntKind.i64.wrap (x231 + 1), b11.cols, b11.rows, A354, c355, s356, b11.col, rfl, rfl, H, hle, by omega, ho370, ho357, hr80⟩
        · intro Jn243
          refine at_seq ?_
          by_cases h371 : p81 = true
          · rw [if_pos h371] at H
            by_cases h372 : x231 ≥ b9
            · rw [if_pos h372] at H
              refine at_reg [(1, .bool true), (6, .bool true)] [2, 5, 10, 12, 13, 14, 15, 16, 64] (L2 := [(2, .bool p81), (5, .pointer (some ⟨g83, 0, none⟩)), (10, .pointer (some ⟨g84, 0, none⟩)), (12, .slice A227 x226.length c228), (13, .int .i64 b9), (14, .int .i64 b10), (15, .int .i64 x231), (16, .int .i64 0), (64, .bool (decide (x231 < b10)))]) (obs := [fun _ => (.bool p81 : Value) = .bool true, fun _ => (.bool (decide (x231 ≥ b9)) : Value) = .bool true]) (by kernel_rfl) ?_ ?_
              · intro w hs; exact ⟨congrArg Value.bool (h371), congrArg Value.bool (decide_eq_true h372)⟩
              refine at_thn ?_
              by_cases h373 : x231 < b10
              · rw [if_pos h373] at H
                refine at_cond_t rfl (decide_eq_true h373) ?_
                refine at_reg [] [2, 5, 10, 12, 13, 14, 15, 16] (L2 := [(2, .bool p81), (5, .pointer (some ⟨g83, 0, none⟩)), (10, .pointer (some ⟨g84, 0, none⟩)), (12, .slice A227 x226.length c228), (13, .int .i64 b9), (14, .int .i64 b10), (15, .int .i64 x231), (16, .int .i64 1)]) (obs := []) (by kernel_rfl) ?_ ?_
                · intro w hs; exact trivial
                refine at_thn ?_
                refine at_keep [2, 5, 10, 12, 13, 14, 15, 16] (L2 := [(2, .bool p81), (5, .pointer (some ⟨g83, 0, none⟩)), (10, .pointer (some ⟨g84, 0, none⟩)), (12, .slice A227 x226.length c228), (13, .int .i64 b9), (14, .int .i64 b10), (15, .int .i64 x231), (16, .int .i64 1)]) rfl ?_
                exact Jn243 _ _ _ ⟨_, 1, rfl, rfl, H, hle, by omega, ho230, ho237, hr80⟩
              · rw [if_neg h373] at H
                refine at_cond_f rfl (decide_eq_false h373) ?_
                refine at_skip ?_
                refine at_thn ?_
                refine at_keep [2, 5, 10, 12, 13, 14, 15, 16] (L2 := [(2, .bool p81), (5, .pointer (some ⟨g83, 0, none⟩)), (10, .pointer (some ⟨g84, 0, none⟩)), (12, .slice A227 x226.length c228), (13, .int .i64 b9), (14, .int .i64 b10), (15, .int .i64 x231), (16, .int .i64 0)]) rfl ?_
                exact Jn243 _ _ _ ⟨_, 0, rfl, rfl, H, hle, by omega, ho230, ho237, hr80⟩
            · rw [if_neg h372] at H
              refine at_reg [(1, .bool true), (6, .bool false)] [2, 5, 10, 12, 13, 14, 15, 16, 64] (L2 := [(2, .bool p81), (5, .pointer (some ⟨g83, 0, none⟩)), (10, .pointer (some ⟨g84, 0, none⟩)), (12, .slice A227 x226.length c228), (13, .int .i64 b9), (14, .int .i64 b10), (15, .int .i64 x231), (16, .int .i64 0), (64, .bool false)]) (obs := [fun _ => (.bool p81 : Value) = .bool true, fun _ => (.bool (decide (x231 ≥ b9)) : Value) = .bool false]) (by kernel_rfl) ?_ ?_
              · intro w hs; exact ⟨congrArg Value.bool (h371), congrArg Value.bool (decide_eq_false h372)⟩
              refine at_thn ?_
              refine at_cond_f rfl (rfl) ?_
              refine at_skip ?_
              refine at_thn ?_
              refine at_keep [2, 5, 10, 12, 13, 14, 15, 16] (L2 := [(2, .bool p81), (5, .pointer (some ⟨g83, 0, none⟩)), (10, .pointer (some ⟨g84, 0, none⟩)), (12, .slice A227 x226.length c228), (13, .int .i64 b9), (14, .int .i64 b10), (15, .int .i64 x231), (16, .int .i64 0)]) rfl ?_
              exact Jn243 _ _ _ ⟨_, 0, rfl, rfl, H, hle, by omega, ho230, ho237, hr80⟩
          · rw [if_neg h371] at H
            refine at_reg [(1, .bool false)] [2, 5, 10, 12, 13, 14, 15, 16, 64] (L2 := [(2, .bool p81), (5, .pointer (some ⟨g83, 0, none⟩)), (10, .pointer (some ⟨g84, 0, none⟩)), (12, .slice A227 x226.length c228), (13, .int .i64 b9), (14, .int .i64 b10), (15, .int .i64 x231), (16, .int .i64 0), (64, .bool false)]) (obs := [fun _ => (.bool p81 : Value) = .bool false]) (by kernel_rfl) ?_ ?_
            · intro w hs; exact congrArg Value.bool (ff_of h371)
            refine at_thn ?_
            refine at_cond_f rfl (rfl) ?_
            refine at_skip ?_
            refine at_thn ?_
            refine at_keep [2, 5, 10, 12, 13, 14, 15, 16] (L2 := [(2, .bool p81), (5, .pointer (some ⟨g83, 0, none⟩)), (10, .pointer (some ⟨g84, 0, none⟩)), (12, .slice A227 x226.length c228), (13, .int .i64 b9), (14, .int .i64 b10), (15, .int .i64 x231), (16, .int .i64 0)]) rfl ?_
            exact Jn243 _ _ _ ⟨_, 0, rfl, rfl, H, hle, by omega, ho230, ho237, hr80⟩
      · rw [if_neg h242] at H
        refine at_cond_f rfl (decide_eq_false h242) ?_
        refine at_exit ?_
        refine at_then_exit ?_
        refine at_then_exit ?_
        refine at_in_hit ?_
        refine at_thn ?_
        refine at_seq ?_
        refine at_reg [] [8, 9] (L2 := [(8, .pointer (some ⟨g84, 0, none⟩)), (9, .slice A227 x226.length c228)]) (obs := []) (by kernel_rfl) ?_ ?_
        · intro w hs; exact trivial
        refine at_thn ?_
        refine at_ret ?_
        obtain rfl := Option.some.inj H
        refine at_drop (k := 0) rfl rfl ?_
        refine at_eqM (M1 := ([(g84, .cells #[.int .i64 x232, .slice A234 x233.length c235, .int .i64 x238] 69 (0, 0))] :: s229 :: s236 :: Fs)) (M2 := ([(g84, .cells #[.int .i64 x232, .slice A234 x233.length c235, .int .i64 x238] 69 (0, 0))] :: s229 :: s236 :: Fs)) rfl rfl ?_
        refine at_perm (((perm_at (k := 1) rfl).trans ((List.Perm.refl _).cons _)).cons _) ?_
        refine at_done (vs := [.pointer (some ⟨g84, 0, none⟩), .slice A227 x226.length c228]) (obs := []) (.inl rfl) [.tmp 8, .tmp 9] [] rfl (by kernel_rfl) (fun w hs => trivial) (fun w hs => ⟨_, _, [[(g84, .cells #[.int .i64 x232, .slice A234 x233.length c235, .int .i64 x238] 69 (0, 0))], s236, s229], rfl, ⟨g84, A234, c235, s236, A227, c228, s229, rfl, rfl, ho237, ho230⟩, hle, hs⟩)
  · intro Jn96
    refine at_seq ?_
    refine at_reg [] [0, 2, 5, 10, 11] (L2 := [(0, .slice A74 p73.length c75), (2, .bool p81), (5, .pointer (some ⟨g83, 0, none⟩)), (10, .pointer (some ⟨g84, 0, none⟩)), (11, .int .i64 0)]) (obs := []) (by kernel_rfl) ?_ ?_
    · intro w hs; exact trivial
    refine at_thn ?_
    refine at_block ?_
    refine at_perm ((perm_at (k := 2) rfl).trans ((List.Perm.refl _).cons _)) ?_
    refine at_keep [0, 2, 5, 10, 11] (L2 := [(0, .slice A74 p73.length c75), (2, .bool p81), (5, .pointer (some ⟨g83, 0, none⟩)), (10, .pointer (some ⟨g84, 0, none⟩)), (11, .int .i64 0)]) rfl ?_
    refine at_loop (fun k382 L I Ms => ∃ (x374 : Int) (x375 : Int) (x376 : List (List T_impl_Cell)) (A377 : Option Addr) (c378 : Nat) (s379 : Seg) (x381 : Int), L = [(0, .slice A74 p73.length c75), (2, .bool p81), (5, .pointer (some ⟨g83, 0, none⟩)), (10, .pointer (some ⟨g84, 0, none⟩)), (11, .int .i64 x374)] ∧ Ms = ([(g83, .cells #[.slice A78 p77.Points.length c79, .int .i64 p77.Cursor, .int .i64 p77.Mark] 25 (0, 0))] :: [(g84, .cells #[.int .i64 x375, .slice A377 x376.length c378, .int .i64 x381] 69 (0, 0))] :: s379 :: Fs) ∧ spec_l09Lay_l1 k382 x374 x375 x376 x381 p73 p77 p81 = some r ∧ ImmLe I0 I ∧ k382 ≤ k ∧ DOwn (DK.sl k_impl_Cell 71) 36 I A377 c378 x376 s379 ∧ Rd (Kd.int .i64) I A74 c75 p73 ∧ Rd (Kd.int .i64) I A78 c79 p77.Points) ?_ ?_ k ⟨0, b7.cols, b7.rows, A92, c93, s94, b7.col, rfl, rfl, H, hle, Nat.le_refl _, ho95, hr76, hr80⟩
    · rintro L I Ms ⟨_, _, _, _, _, _, _, rfl, rfl, H, _⟩; exact no_none H
    · clear H hle ho95 hr76 hr80
      intro k382 ih383 L I Ms h_; obtain ⟨x374, x375, x376, A377, c378, s379, x381, hL_, hM_, H, hle, hk384, ho380, hr76, hr80⟩ := h_; rw [hL_, hM_]; clear hL_ hM_ L Ms
      rw [spec_l09Lay_l1] at H
      refine at_seq ?_
      refine at_seq ?_
      refine at_reg [] [0, 2, 5, 10, 11, 25] (L2 := [(0, .slice A74 p73.length c75), (2, .bool p81), (5, .pointer (some ⟨g83, 0, none⟩)), (10, .pointer (some ⟨g84, 0, none⟩)), (11, .int .i64 x374), (25, .bool (decide (x374 < (p73.length : Int))))]) (obs := []) (by kernel_rfl) ?_ ?_
      · intro w hs; exact trivial
      refine at_thn ?_
      by_cases h385 : x374 < (p73.length : Int)
      · rw [if_pos h385] at H
        refine at_cond_t rfl (decide_eq_true h385) ?_
        refine at_skip ?_
        refine at_thn ?_
        refine at_seq ?_
        refine at_block ?_
        refine at_ops [0, 1, 2, 3, 4, 5] rfl ?_
        obtain ⟨h386, H⟩ := ite_some H
        refine at_seg [0, 1, 2, 3, 4] [5] rfl [(4, .int .i64 (rdA 0 p73 x374))] [0, 2, 5, 10, 11, 28, 32] (L2 := [(0, .slice A74 p73.length c75), (2, .bool p81), (5, .pointer (some ⟨g83, 0, none⟩)), (10, .pointer (some ⟨g84, 0, none⟩)), (11, .int .i64 x374), (28, .pointer (some ⟨g84, 0, none⟩)), (32, .int .i64 (rdA 0 p73 x374))]) (obs := [fun _ => A74.isSome = true ∧ 0 ≤ x374 ∧ x374 < ((p73.length : Nat) : Int), fun w => w.cell? ((A74.getD ad0).add (x374.toNat * 1)) = some (.int .i64 (rdA 0 p73 x374))]) (by kernel_rfl) ?_ ?_
        · intro w hs; exact ⟨⟨hr76.ne x374 h386 h385, h386, h385⟩, hr76.one 0 x374 h386 h385 hs⟩
        refine at_eff rfl rfl ?_
        obtain ⟨b13, H387, H⟩ := bind_some H
        refine eff_call rfl rfl ok51 rfl rfl (show Meets Try.prog 51 ([.pointer (some ⟨g84, 0, none⟩), .int .i64 (rdA 0 p73 x374), .int .i64 0] : List Value).toArray _ [[(g84, .cells #[.int .i64 x375, .slice A377 x376.length c378, .int .i64 x381] 69 (0, 0))], s379] _ from spec_l09Pen_point.calls H387 ho380) (Mr := ([(g83, .cells #[.slice A78 p77.Points.length c79, .int .i64 p77.Cursor, .int .i64 p77.Mark] 25 (0, 0))] :: Fs)) ((perm_at (k := 1) rfl).trans (((perm_at (k := 1) rfl).trans ((List.Perm.refl _).cons _)).cons _)) (fun v388 J389 M390 hq391 hJ392 => ?_)
        replace hle := hle.trans hJ392
        replace ho380 := ho380.mono hJ392
        replace hr76 := hr76.mono hJ392
        replace hr80 := hr80.mono hJ392
        obtain ⟨A393, c394, s395, rfl, rfl, ho396⟩ := hq391
        refine at_end ?_
        refine at_in_norm ?_
        refine at_thn ?_
        refine at_reg [] [0, 2, 5, 10, 11] (L2 := [(0, .slice A74 p73.length c75), (2, .bool p81), (5, .pointer (some ⟨g83, 0, none⟩)), (10, .pointer (some ⟨g84, 0, none⟩)), (11, .int .i64 (IntKind.i64.wrap (x374 + 1)))]) (obs := []) (by kernel_rfl) ?_ ?_
        · intro w hs; exact trivial
        refine at_thn ?_
        refine at_perm ((perm_at (k := 2) rfl).trans ((List.Perm.refl _).cons _)) ?_
        refine at_keep [0, 2, 5, 10, 11] (L2 := [(0, .slice A74 p73.length c75), (2, .bool p81), (5, .pointer (some ⟨g83, 0, none⟩)), (10, .pointer (some ⟨g84, 0, none⟩)), (11, .int .i64 (IntKind.i64.wrap (x374 + 1)))]) rfl ?_
        exact ih383 _ (by omega) _ _ _ ⟨IntKind.i64.wrap (x374 + 1), b13.cols, b13.rows, A393, c394, s395, b13.col, rfl, rfl, H, hle, by omega, ho396, hr76, hr80⟩
      · rw [if_neg h385] at H
        refine at_cond_f rfl (decide_eq_false h385) ?_
        refine at_exit ?_
        refine at_then_exit ?_
        refine at_then_exit ?_
        refine at_in_hit ?_
        refine at_thn ?_
        refine at_keep [2, 5, 10] (L2 := [(2, .bool p81), (5, .pointer (some ⟨g83, 0, none⟩)), (10, .pointer (some ⟨g84, 0, none⟩))]) rfl ?_
        exact Jn96 _ _ _ ⟨_, x375, x376, A377, c378, s379, x381, rfl, rfl, H, hle, by omega, ho380, hr80⟩
end Go.Proofs.Ytnhnipdanpcbeaa
