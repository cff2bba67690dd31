import Derived.Test.YtnhnipdanpcbeaaV6
namespace Go.Proofs.Ytnhnipdanpcbeaa
open Go Eng
set_option linter.unusedVariables false
set_option linter.unusedSimpArgs false
/-! ### (*loop.example/g00146/spec.l09Pen).point: function 51 -/
def spec_l09Pen_point_l0 : Nat → Int → Int → (List (List T_impl_Cell)) → Int → (List Int) → Int → Option T_spec_l09Pen
  | 0, _, _, _, _, _, _ => none
  | k + 1, x213, x214, x215, x220, b7, p191 => if x213 < (b7.length : Int) then (if 0 ≤ x213 then ((spec_l09Pen_shown k (⟨x214, x215, x220⟩ : T_spec_l09Pen) (rdA 0 b7 x213) p191).bind fun b8 => (spec_l09Pen_point_l0 k (IntKind.i64.wrap (x213 + 1)) b8.cols b8.rows b8.col b7 p191)) else none) else (some (⟨x214, x215, x220⟩ : T_spec_l09Pen))
def spec_l09Pen_point (k : Nat) (p185 : T_spec_l09Pen) (p190 : Int) (p191 : Int) : Option T_spec_l09Pen := if p190 = 10 then ((spec_l09Pen_next p185).bind fun b6 => (some b6)) else ((spec_l01Shown k p190).bind fun b7 => (spec_l09Pen_point_l0 k 0 p185.cols p185.rows p185.col b7 p191))
set_option maxHeartbeats 4000000 in
set_option maxRecDepth 100000 in
theorem spec_l09Pen_point.calls {k : Nat} {p185 : T_spec_l09Pen} {p190 : Int} {p191 : Int} {r : T_spec_l09Pen} {I0 : Imm} {g184 : Nat} {A186 : Option Addr} {c187 : Nat} {s188 : Seg} (H : spec_l09Pen_point k p185 p190 p191 = some r) (ho189 : DOwn (DK.sl k_impl_Cell 71) 36 I0 A186 c187 p185.rows s188) :
    Meets Try.prog 51 ([.pointer (some ⟨g184, 0, none⟩), .int .i64 p190, .int .i64 p191] : List Value).toArray I0 [[(g184, .cells #[.int .i64 p185.cols, .slice A186 p185.rows.length c187, .int .i64 p185.col] 69 (0, 0))], s188] (fun v J M => ∃ (A_1 : Option Addr) (c_2 : Nat) (s_3 : Seg), v = .tuple #[] ∧ M = [[(g184, .cells #[.int .i64 r.cols, .slice A_1 r.rows.length c_2, .int .i64 r.col] 69 (0, 0))], s_3] ∧ DOwn (DK.sl k_impl_Cell 71) 36 J A_1 c_2 r.rows s_3) := by
 have hle := ImmLe.refl I0
 unfold spec_l09Pen_point at H
 refine fn_intro (fn := Try.f51) 27 Try.func51 rfl rfl rfl (fun E Fs => ?_)
 refine at_seq (at_seq (at_reg0 [] [0, 1, 2, 9] [(0, .pointer (some ⟨g184, 0, none⟩)), (1, iV p190), (2, iV p191), (9, .bool (p190 == 10))] ?_))
 refine at_thn ?_
 by_cases h192 : p190 = 10
 ·
  rw [if_pos h192] at H
  refine at_cond_t rfl (beq_iff_eq.2 h192) ?_
  refine at_seq (at_ops [0, 1] rfl ?_)
  refine at_seg0 [0] [1] [] [10] [(10, .pointer (some ⟨g184, 0, none⟩))] ?_
  refine at_eff rfl rfl ?_
  obtain ⟨b6, H193, H⟩ := bind_some H
  refine eff_call rfl rfl ok50 rfl rfl (show Meets Try.prog 50 ([.pointer (some ⟨g184, 0, none⟩)] : List Value).toArray _ [[(g184, .cells #[iV p185.cols, .slice A186 p185.rows.length c187, iV p185.col] 69 (0, 0))], s188] _ from spec_l09Pen_next.calls H193 ho189) (Mr := (Fs)) (List.Perm.refl _) (fun v194 J195 M196 hq197 hJ198 => ?_)
  replace hle := hle.trans hJ198
  replace ho189 := ho189.mono hJ198
  obtain ⟨A199, c200, s201, rfl, rfl, ho202⟩ := hq197
  refine at_end (at_thn (at_ret (at_then_ret ?_)))
  obtain rfl := Option.some.inj H
  exact at_done0 [] (.inl rfl) [] fun w hs => ⟨_, _, [[(g184, .cells #[iV b6.cols, .slice A199 b6.rows.length c200, iV b6.col] 69 (0, 0))], s201], rfl, ⟨A199, c200, s201, rfl, rfl, ho202⟩, hle, hs⟩
 ·
  rw [if_neg h192] at H
  refine at_cond_f rfl (beq_eq_false_iff_ne.2 h192) ?_
  refine at_skip (at_thn (at_seq (at_ops [0, 1, 2] rfl ?_)))
  refine at_seg0 [0] [1, 2] [] [0, 2, 12] [(0, .pointer (some ⟨g184, 0, none⟩)), (2, iV p191), (12, iV p190)] ?_
  refine at_eff rfl rfl ?_
  obtain ⟨b7, H203, H⟩ := bind_some H
  have hm_ := spec_l01Shown.calls (I0 := I0) H203
  refine eff_call rfl rfl ok66 rfl rfl (show Meets Try.prog 66 ([iV p190] : List Value).toArray _ [] _ from hm_) (Mr := ([(g184, .cells #[iV p185.cols, .slice A186 p185.rows.length c187, iV p185.col] 69 (0, 0))] :: s188 :: Fs)) (List.Perm.refl _) (fun v204 J205 M206 hq207 hJ208 => ?_)
  replace hle := hle.trans hJ208
  replace ho189 := ho189.mono hJ208
  obtain ⟨A209, c210, s211, rfl, rfl, ho212⟩ := hq207
  refine at_seg0 [2] [] [] [0, 2, 6] [(0, .pointer (some ⟨g184, 0, none⟩)), (2, iV p191), (6, .slice A209 b7.length c210)] ?_
  refine at_end (at_thn (at_seq (at_reg0 [] [0, 2, 6, 7] [(0, .pointer (some ⟨g184, 0, none⟩)), (2, iV p191), (6, .slice A209 b7.length c210), (7, iV 0)] ?_)))
  refine at_thn (at_block (at_perm ((perm_at (k := 1) rfl).trans ((List.Perm.refl _).cons _)) ?_))
  refine at_keep [0, 2, 6, 7] (L2 := [(0, .pointer (some ⟨g184, 0, none⟩)), (2, iV p191), (6, .slice A209 b7.length c210), (7, iV 0)]) rfl ?_
  refine at_loop (fun k221 L I Ms => ∃ (x213 : Int) (x214 : Int) (x215 : List (List T_impl_Cell)) (A216 : Option Addr) (c217 : Nat) (s218 : Seg) (x220 : Int), L = [(0, .pointer (some ⟨g184, 0, none⟩)), (2, iV p191), (6, .slice A209 b7.length c210), (7, iV x213)] ∧ Ms = ([(g184, .cells #[iV x214, .slice A216 x215.length c217, iV x220] 69 (0, 0))] :: s211 :: s218 :: Fs) ∧ spec_l09Pen_point_l0 k221 x213 x214 x215 x220 b7 p191 = some r ∧ ImmLe I0 I ∧ k221 ≤ k ∧ Own (Kd.int .i64) 2 I A209 c210 b7 s211 ∧ DOwn (DK.sl k_impl_Cell 71) 36 I A216 c217 x215 s218) ?_ ?_ k ⟨0, p185.cols, p185.rows, A186, c187, s188, p185.col, rfl, rfl, H, hle, Nat.le_refl _, ho212, ho189⟩
  · rintro L I Ms ⟨_, _, _, _, _, _, _, rfl, rfl, H, _⟩; exact no_none H
  ·
   clear H hle ho189 ho212
   intro k221 ih222 L I Ms h_; obtain ⟨x213, x214, x215, A216, c217, s218, x220, hL_, hM_, H, hle, hk223, ho212, ho219⟩ := h_; rw [hL_, hM_]; clear hL_ hM_ L Ms
   rw [spec_l09Pen_point_l0] at H
   refine at_seq (at_seq (at_reg0 [] [0, 2, 6, 7, 17] [(0, .pointer (some ⟨g184, 0, none⟩)), (2, iV p191), (6, .slice A209 b7.length c210), (7, iV x213), (17, .bool (decide (x213 < (b7.length : Int))))] ?_))
   refine at_thn ?_
   by_cases h224 : x213 < (b7.length : Int)
   ·
    rw [if_pos h224] at H
    refine at_cond_t rfl (decide_eq_true h224) ?_
    refine at_skip (at_thn (at_seq (at_block (at_ops [0, 1, 2, 3, 4, 5, 6] rfl ?_))))
    obtain ⟨h225, H⟩ := ite_some H
    refine at_seg1 [0, 1, 2, 3, 4, 5] [6] [(4, iV (rdA 0 b7 x213))] [0, 2, 6, 7, 20, 24, 25] [(0, .pointer (some ⟨g184, 0, none⟩)), (2, iV p191), (6, .slice A209 b7.length c210), (7, iV x213), (20, .pointer (some ⟨g184, 0, none⟩)), (24, iV (rdA 0 b7 x213)), (25, iV p191)] [fun _ => A209.isSome = true ∧ 0 ≤ x213 ∧ x213 < ((b7.length : Nat) : Int), fun w => w.cell? ((A209.getD ad0).add (x213.toNat * 1)) = some (iV (rdA 0 b7 x213))] (fun w hs => ⟨⟨ho212.ne x213 h225 h224, h225, h224⟩, ho212.one 0 x213 h225 h224 hs (k := 1) rfl⟩) ?_
    refine at_eff rfl rfl ?_
    obtain ⟨b8, H226, H⟩ := bind_some H
    refine eff_call rfl rfl ok67 rfl rfl (show Meets Try.prog 67 ([.pointer (some ⟨g184, 0, none⟩), iV (rdA 0 b7 x213), iV p191] : List Value).toArray _ [[(g184, .cells #[iV x214, .slice A216 x215.length c217, iV x220] 69 (0, 0))], s218] _ from spec_l09Pen_shown.calls H226 ho219) (Mr := (s211 :: Fs)) (((perm_at (k := 1) rfl).trans ((List.Perm.refl _).cons _)).cons _) (fun v227 J228 M229 hq230 hJ231 => ?_)
    replace hle := hle.trans hJ231
    replace ho212 := ho212.mono hJ231
    replace ho219 := ho219.mono hJ231
    obtain ⟨A232, c233, s234, rfl, rfl, ho235⟩ := hq230
    refine at_end (at_in_norm (at_thn (at_reg0 [] [0, 2, 6, 7] [(0, .pointer (some ⟨g184, 0, none⟩)), (2, iV p191), (6, .slice A209 b7.length c210), (7, iV (IntKind.i64.wrap (x213 + 1)))] ?_)))
    refine at_thn (at_perm (((perm_at (k := 1) rfl).trans ((List.Perm.refl _).cons _)).cons _) ?_)
    refine at_keep [0, 2, 6, 7] (L2 := [(0, .pointer (some ⟨g184, 0, none⟩)), (2, iV p191), (6, .slice A209 b7.length c210), (7, iV (IntKind.i64.wrap (x213 + 1)))]) rfl ?_
    exact ih222 _ (by omega) _ _ _ ⟨IntKind.i64.wrap (x213 + 1), b8.cols, b8.rows, A232, c233, s234, b8.col, rfl, rfl, H, hle, by omega, ho212, ho235⟩
   ·
    rw [if_neg h224] at H
    refine at_cond_f rfl (decide_eq_false h224) ?_
    refine at_exit (at_then_exit (at_then_exit (at_in_hit ?_)))
    obtain rfl := Option.some.inj H
    refine at_drop (k := 1) rfl rfl ?_
    exact at_done0 [] (.inr rfl) [] fun w hs => ⟨_, _, [[(g184, .cells #[iV x214, .slice A216 x215.length c217, iV x220] 69 (0, 0))], s218], rfl, ⟨A216, c217, s218, rfl, rfl, ho219⟩, hle, hs⟩

/-! ### (*loop.example/g00146/spec.l09Pen).spot: function 52 -/
def spec_l09Pen_spot (p213 : T_spec_l09Pen) : Option T_impl_Spot := if p213.col ≥ p213.cols then (some (⟨IntKind.i64.wrap ((IntKind.i64.wrap ((p213.rows.length : Int) - 1)) + 1), 0⟩ : T_impl_Spot)) else (some (⟨IntKind.i64.wrap ((p213.rows.length : Int) - 1), p213.col⟩ : T_impl_Spot))
set_option maxHeartbeats 4000000 in
set_option maxRecDepth 100000 in
theorem spec_l09Pen_spot.calls {p213 : T_spec_l09Pen} {r : T_impl_Spot} {I0 : Imm} {g212 : Nat} {A214 : Option Addr} {c215 : Nat} {s216 : Seg} (H : spec_l09Pen_spot p213 = some r) (ho217 : DOwn (DK.sl k_impl_Cell 71) 36 I0 A214 c215 p213.rows s216) :
    Meets Try.prog 52 ([.pointer (some ⟨g212, 0, none⟩)] : List Value).toArray I0 [[(g212, .cells #[.int .i64 p213.cols, .slice A214 p213.rows.length c215, .int .i64 p213.col] 69 (0, 0))], s216] (fun v J M => v = .agg #[.int .i64 r.Line, .int .i64 r.Col] ∧ M = [[(g212, .cells #[.int .i64 p213.cols, .slice A214 p213.rows.length c215, .int .i64 p213.col] 69 (0, 0))], s216]) := by
 have hle := ImmLe.refl I0
 unfold spec_l09Pen_spot at H
 refine fn_intro (fn := Try.f52) 28 Try.func52 rfl rfl rfl (fun E Fs => ?_)
 refine at_seq (at_ops [0] rfl ?_)
 refine at_eff rfl rfl ?_
 obtain ⟨i_, hi_, hz_, _, _⟩ := info31
 refine eff_alloc rfl rfl hi_ hz_ #[iV 0, iV 0] rfl (fun g218 => ?_)
 refine at_end (at_thn (at_seq (at_reg1 [(3, .slice A214 p213.rows.length c215)] [0, 2, 3] [(0, .pointer (some ⟨g212, 0, none⟩)), (2, .pointer (some ⟨g218, 0, none⟩)), (3, iV (IntKind.i64.wrap ((p213.rows.length : Int) - 1)))] [fun w => w.cell? ⟨g212, 1, none⟩ = some (.slice A214 p213.rows.length c215)] (fun w hs => hs.var (k := 1) rfl 1 rfl) ?_)))
 refine at_thn (at_seq (at_seq (at_regd hmo [(3, iV p213.col), (7, iV p213.cols)] [0, 2, 3, 18] (by kernel_rfl) (L2 := [(0, .pointer (some ⟨g212, 0, none⟩)), (2, .pointer (some ⟨g218, 0, none⟩)), (3, iV (IntKind.i64.wrap ((p213.rows.length : Int) - 1))), (18, .bool (decide (p213.col ≥ p213.cols)))]) (obs := [fun w => w.cell? ⟨g212, 2, none⟩ = some (iV p213.col), fun w => w.cell? ⟨g212, 0, none⟩ = some (iV p213.cols)]) (by kernel_rfl) ?_ ?_)))
 · intro w hs; exact ⟨hs.var (k := 1) rfl 2 rfl, hs.var (k := 1) rfl 0 rfl⟩
 refine at_thn ?_
 by_cases h219 : p213.col ≥ p213.cols
 ·
  rw [if_pos h219] at H
  refine at_cond_t rfl (decide_eq_true h219) ?_
  refine at_seq (at_ops [0, 1, 2, 3] rfl ?_)
  refine at_seg0 [0, 1, 2] [3] [] [2, 21] [(2, .pointer (some ⟨g218, 0, none⟩)), (21, .agg #[iV (IntKind.i64.wrap ((IntKind.i64.wrap ((p213.rows.length : Int) - 1)) + 1)), iV 0])] ?_
  refine at_eff rfl rfl ?_
  refine eff_store 0 rfl rfl rfl rfl rfl rfl (.inl (Nat.le_refl _)) rfl (Nat.le_of_ble_eq_true (by kernel_rfl)) rfl ?_
  refine at_sg ([(g218, .cells #[iV (IntKind.i64.wrap ((IntKind.i64.wrap ((p213.rows.length : Int) - 1)) + 1)), iV 0] 31 (0, 0))] :: [(g212, .cells #[iV p213.cols, .slice A214 p213.rows.length c215, iV p213.col] 69 (0, 0))] :: s216 :: Fs) ?_
  refine at_end (at_thn (at_ret (at_then_ret ?_)))
  obtain rfl := Option.some.inj H
  refine at_perm ((perm_at (k := 1) rfl).trans (((perm_at (k := 1) rfl).trans ((List.Perm.refl _).cons _)).cons _)) ?_
  refine at_done (vs := [.agg #[iV (IntKind.i64.wrap ((IntKind.i64.wrap ((p213.rows.length : Int) - 1)) + 1)), iV 0]]) (obs := [fun w => CellsAt w ⟨g218, 0, none⟩ [iV (IntKind.i64.wrap ((IntKind.i64.wrap ((p213.rows.length : Int) - 1)) + 1)), iV 0] 0]) (.inl rfl) [.cell 2 31] [(2, .agg #[iV (IntKind.i64.wrap ((IntKind.i64.wrap ((p213.rows.length : Int) - 1)) + 1)), iV 0])] rfl (by kernel_rfl) (fun w hs => cellsV (k := 2) hs rfl _ 0 (Nat.le_of_ble_eq_true (by kernel_rfl)) rfl) (fun w hs => ⟨_, _, [[(g212, .cells #[iV p213.cols, .slice A214 p213.rows.length c215, iV p213.col] 69 (0, 0))], s216], rfl, ⟨rfl, rfl⟩, hle, (hs.tail (perm_at (k := 2) rfl))⟩)
 ·
  rw [if_neg h219] at H
  refine at_cond_f rfl (decide_eq_false h219) ?_
  refine at_skip (at_thn (at_seq (at_ops [0, 1, 2, 3, 4, 5, 6] rfl ?_)))
  refine at_seg1 [0, 1, 2, 3, 4, 5] [6] [(4, iV p213.col)] [2, 27] [(2, .pointer (some ⟨g218, 0, none⟩)), (27, .agg #[iV (IntKind.i64.wrap ((p213.rows.length : Int) - 1)), iV p213.col])] [fun w => w.cell? ⟨g212, 2, none⟩ = some (iV p213.col)] (fun w hs => hs.var (k := 1) rfl 2 rfl) ?_
  refine at_eff rfl rfl ?_
  refine eff_store 0 rfl rfl rfl rfl rfl rfl (.inl (Nat.le_refl _)) rfl (Nat.le_of_ble_eq_true (by kernel_rfl)) rfl ?_
  refine at_sg ([(g218, .cells #[iV (IntKind.i64.wrap ((p213.rows.length : Int) - 1)), iV p213.col] 31 (0, 0))] :: [(g212, .cells #[iV p213.cols, .slice A214 p213.rows.length c215, iV p213.col] 69 (0, 0))] :: s216 :: Fs) ?_
  refine at_end (at_thn (at_ret ?_))
  obtain rfl := Option.some.inj H
  refine at_perm ((perm_at (k := 1) rfl).trans (((perm_at (k := 1) rfl).trans ((List.Perm.refl _).cons _)).cons _)) ?_
  refine at_done (vs := [.agg #[iV (IntKind.i64.wrap ((p213.rows.length : Int) - 1)), iV p213.col]]) (obs := [fun w => CellsAt w ⟨g218, 0, none⟩ [iV (IntKind.i64.wrap ((p213.rows.length : Int) - 1)), iV p213.col] 0]) (.inl rfl) [.cell 2 31] [(2, .agg #[iV (IntKind.i64.wrap ((p213.rows.length : Int) - 1)), iV p213.col])] rfl (by kernel_rfl) (fun w hs => cellsV (k := 2) hs rfl _ 0 (Nat.le_of_ble_eq_true (by kernel_rfl)) rfl) (fun w hs => ⟨_, _, [[(g212, .cells #[iV p213.cols, .slice A214 p213.rows.length c215, iV p213.col] 69 (0, 0))], s216], rfl, ⟨rfl, rfl⟩, hle, (hs.tail (perm_at (k := 2) rfl))⟩)

/-! ### loop.example/g00146/spec.l01Min: function 53 -/
def spec_l01Min (p220 : Int) (p221 : Int) : Option Int := if p220 < p221 then (some p220) else (some p221)
set_option maxHeartbeats 4000000 in
set_option maxRecDepth 100000 in
theorem spec_l01Min.calls {p220 : Int} {p221 : Int} {r : Int} {I0 : Imm} (H : spec_l01Min p220 p221 = some r) :
    Meets Try.prog 53 ([.int .i64 p220, .int .i64 p221] : List Value).toArray I0 [] (fun v J M => v = .int .i64 r ∧ M = []) := by
 have hle := ImmLe.refl I0
 unfold spec_l01Min at H
 refine fn_intro (fn := Try.f53) 10 Try.func53 rfl rfl rfl (fun E Fs => ?_)
 refine at_seq (at_reg0 [] [0, 1] [(0, iV p220), (1, iV p221)] ?_)
 refine at_thn (at_seq (at_seq (at_reg0 [] [0, 1, 7] [(0, iV p220), (1, iV p221), (7, .bool (decide (p220 < p221)))] ?_)))
 refine at_thn ?_
 by_cases h222 : p220 < p221
 ·
  rw [if_pos h222] at H
  refine at_cond_t rfl (decide_eq_true h222) ?_
  refine at_seq (at_reg0 [] [4] [(4, iV p220)] ?_)
  refine at_thn (at_ret (at_then_ret ?_))
  obtain rfl := Option.some.inj H
  exact at_done0 [iV p220] (.inl rfl) [.tmp 4] fun w hs => ⟨_, _, [], rfl, ⟨rfl, rfl⟩, hle, hs⟩
 ·
  rw [if_neg h222] at H
  refine at_cond_f rfl (decide_eq_false h222) ?_
  refine at_skip (at_thn (at_seq (at_reg0 [] [4] [(4, iV p221)] ?_)))
  refine at_thn (at_ret ?_)
  obtain rfl := Option.some.inj H
  exact at_done0 [iV p221] (.inl rfl) [.tmp 4] fun w hs => ⟨_, _, [], rfl, ⟨rfl, rfl⟩, hle, hs⟩

/-! ### loop.example/g00146/spec.l01Max: function 32 -/
def spec_l01Max (p226 : Int) (p227 : Int) : Option Int := if p226 > p227 then (some p226) else (some p227)
set_option maxHeartbeats 4000000 in
set_option maxRecDepth 100000 in
theorem spec_l01Max.calls {p226 : Int} {p227 : Int} {r : Int} {I0 : Imm} (H : spec_l01Max p226 p227 = some r) :
    Meets Try.prog 32 ([.int .i64 p226, .int .i64 p227] : List Value).toArray I0 [] (fun v J M => v = .int .i64 r ∧ M = []) := by
 have hle := ImmLe.refl I0
 unfold spec_l01Max at H
 refine fn_intro (fn := Try.f32) 10 Try.func32 rfl rfl rfl (fun E Fs => ?_)
 refine at_seq (at_reg0 [] [0, 1] [(0, iV p226), (1, iV p227)] ?_)
 refine at_thn (at_seq (at_seq (at_reg0 [] [0, 1, 7] [(0, iV p226), (1, iV p227), (7, .bool (decide (p226 > p227)))] ?_)))
 refine at_thn ?_
 by_cases h228 : p226 > p227
 ·
  rw [if_pos h228] at H
  refine at_cond_t rfl (decide_eq_true h228) ?_
  refine at_seq (at_reg0 [] [4] [(4, iV p226)] ?_)
  refine at_thn (at_ret (at_then_ret ?_))
  obtain rfl := Option.some.inj H
  exact at_done0 [iV p226] (.inl rfl) [.tmp 4] fun w hs => ⟨_, _, [], rfl, ⟨rfl, rfl⟩, hle, hs⟩
 ·
  rw [if_neg h228] at H
  refine at_cond_f rfl (decide_eq_false h228) ?_
  refine at_skip (at_thn (at_seq (at_reg0 [] [4] [(4, iV p227)] ?_)))
  refine at_thn (at_ret ?_)
  obtain rfl := Option.some.inj H
  exact at_done0 [iV p227] (.inl rfl) [.tmp 4] fun w hs => ⟨_, _, [], rfl, ⟨rfl, rfl⟩, hle, hs⟩

/-! ### loop.example/g00146/spec.l09Lay: function 27 -/
mutual
def spec_l09Lay_l1 : Nat → Int → Int → (List (List T_impl_Cell)) → Int → (List Int) → T_impl_Buf → Bool → Option (T_spec_l09Pen × (List T_impl_Spot))
  | 0, _, _, _, _, _, _, _ => none
  | k + 1, x182, x183, x184, x189, p159, p163, p167 => if x182 < (p159.length : Int) then (if 0 ≤ x182 then ((spec_l09Pen_point k (⟨x183, x184, x189⟩ : T_spec_l09Pen) (rdA 0 p159 x182) 0).bind fun b6 => (spec_l09Lay_l1 k (IntKind.i64.wrap (x182 + 1)) b6.cols b6.rows b6.col p159 p163 p167)) else none) else (spec_l09Lay_j0 k x183 x184 x189 p163 p167)
def spec_l09Lay_j0 : Nat → Int → (List (List T_impl_Cell)) → Int → T_impl_Buf → Bool → Option (T_spec_l09Pen × (List T_impl_Spot))
  | 0, _, _, _, _, _ => none
  | k + 1, x305, x306, x311, p163, p167 => (spec_l09Pen_spot (⟨x305, x306, x311⟩ : T_spec_l09Pen)).bind fun b7 => ((spec_l01Min p163.Cursor p163.Mark).bind fun b8 => ((spec_l01Max p163.Cursor p163.Mark).bind fun b9 => (spec_l09Lay_l0 k ([b7] : List T_impl_Spot) 0 x305 x306 x311 b8 b9 p163 p167)))
def spec_l09Lay_l0 : Nat → (List T_impl_Spot) → Int → Int → (List (List T_impl_Cell)) → Int → Int → Int → T_impl_Buf → Bool → Option (T_spec_l09Pen × (List T_impl_Spot))
  | 0, _, _, _, _, _, _, _, _, _ => none
  | k + 1, x334, x339, x340, x341, x346, b8, b9, p163, p167 => if x339 < (p163.Points.length : Int) then (if p167 = true then (if x339 ≥ b8 then (if x339 < b9 then (spec_l09Lay_j1 k 1 b8 b9 p163 p167 x334 x339 x340 x341 x346) else (spec_l09Lay_j1 k 0 b8 b9 p163 p167 x334 x339 x340 x341 x346)) else (spec_l09Lay_j1 k 0 b8 b9 p163 p167 x334 x339 x340 x341 x346)) else (spec_l09Lay_j1 k 0 b8 b9 p163 p167 x334 x339 x340 x341 x346)) else (some ((⟨x340, x341, x346⟩ : T_spec_l09Pen), x334))
def spec_l09Lay_j1 : Nat → Int → Int → Int → T_impl_Buf → Bool → (List T_impl_Spot) → Int → Int → (List (List T_impl_Cell)) → Int → Option (T_spec_l09Pen × (List T_impl_Spot))
  | 0, _, _, _, _, _, _, _, _, _, _ => none
  | k + 1, x454, b8, b9, p163, p167, x334, x339, x340, x341, x346 => if 0 ≤ x339 then ((spec_l09Pen_point k (⟨x340, x341, x346⟩ : T_spec_l09Pen) (rdA 0 p163.Points x339) x454).bind fun b10 => ((spec_l09Pen_spot b10).bind fun b11 => (if x334.length + ([b11] : List T_impl_Spot).length ≤ 8796093022208 then (spec_l09Lay_l0 k (x334 ++ ([b11] : List T_impl_Spot)) (IntKind.i64.wrap (x339 + 1)) b10.cols b10.rows b10.col b8 b9 p163 p167) else none))) else none
end
def spec_l09Lay (k : Nat) (p159 : List Int) (p163 : T_impl_Buf) (p167 : Bool) (p168 : Int) : Option (T_spec_l09Pen × (List T_impl_Spot)) := (spec_l09Pen_next (⟨p168, ([] : List (List T_impl_Cell)), 0⟩ : T_spec_l09Pen)).bind fun b5 => (spec_l09Lay_l1 k 0 b5.cols b5.rows b5.col p159 p163 p167)
set_option maxHeartbeats 4000000 in
set_option maxRecDepth 100000 in
theorem spec_l09Lay.calls {k : Nat} {p159 : List Int} {p163 : T_impl_Buf} {p167 : Bool} {p168 : Int} {r : T_spec_l09Pen × (List T_impl_Spot)} {I0 : Imm} {A160 : Option Addr} {c161 : Nat} {A164 : Option Addr} {c165 : Nat} (H : spec_l09Lay k p159 p163 p167 p168 = some r) (hr162 : Rd (Kd.int .i64) I0 A160 c161 p159) (hr166 : Rd (Kd.int .i64) I0 A164 c165 p163.Points) :
    Meets Try.prog 27 ([.slice A160 p159.length c161, .agg #[.slice A164 p163.Points.length c165, .int .i64 p163.Cursor, .int .i64 p163.Mark], .bool p167, .int .i64 p168] : List Value).toArray I0 [] (fun v J M => ∃ (g_1 : Nat) (A_2 : Option Addr) (c_3 : Nat) (s_4 : Seg) (A_5 : Option Addr) (c_6 : Nat) (s_7 : Seg), v = .tuple #[.pointer (some ⟨g_1, 0, none⟩), .slice A_5 r.2.length c_6] ∧ M = [[(g_1, .cells #[.int .i64 r.1.cols, .slice A_2 r.1.rows.length c_3, .int .i64 r.1.col] 69 (0, 0))], s_4, s_7] ∧ DOwn (DK.sl k_impl_Cell 71) 36 J A_2 c_3 r.1.rows s_4 ∧ Own k_impl_Spot 31 J A_5 c_6 r.2 s_7) := by
 have hle := ImmLe.refl I0
 unfold spec_l09Lay at H
 refine fn_intro (fn := Try.f27) 80 Try.func27 rfl rfl rfl (fun E Fs => ?_)
 refine at_seq (at_ops [0, 1, 2] rfl ?_)
 refine at_eff rfl rfl ?_
 refine eff_box rfl rfl rfl #[.slice A164 p163.Points.length c165, iV p163.Cursor, iV p163.Mark] rfl (fun g169 => ?_)
 refine at_seg0 [1, 2] [] [] [0, 2, 3, 5] [(0, .slice A160 p159.length c161), (2, .bool p167), (3, iV p168), (5, .pointer (some ⟨g169, 0, none⟩))] ?_
 refine at_end (at_thn (at_seq (at_ops [0, 1, 2, 3] rfl ?_)))
 refine at_seg0 [0, 1] [2, 3] [] [0, 2, 5, 18] [(0, .slice A160 p159.length c161), (2, .bool p167), (5, .pointer (some ⟨g169, 0, none⟩)), (18, .agg #[iV p168, .slice none ([] : List (List T_impl_Cell)).length 0, iV 0])] ?_
 refine at_eff rfl rfl ?_
 refine eff_box rfl rfl rfl #[iV p168, .slice none ([] : List (List T_impl_Cell)).length 0, iV 0] rfl (fun g170 => ?_)
 refine at_seg0 [3] [] [] [0, 2, 5, 10] [(0, .slice A160 p159.length c161), (2, .bool p167), (5, .pointer (some ⟨g169, 0, none⟩)), (10, .pointer (some ⟨g170, 0, none⟩))] ?_
 refine at_end (at_thn (at_seq (at_ops [0, 1] rfl ?_)))
 refine at_seg0 [0] [1] [] [0, 2, 5, 10, 20] [(0, .slice A160 p159.length c161), (2, .bool p167), (5, .pointer (some ⟨g169, 0, none⟩)), (10, .pointer (some ⟨g170, 0, none⟩)), (20, .pointer (some ⟨g170, 0, none⟩))] ?_
 refine at_eff rfl rfl ?_
 refine at_nilseg ?_
 have hd171 := DOwn.nil (DK.sl k_impl_Cell 71) 36 I0
 obtain ⟨b5, H172, H⟩ := bind_some H
 refine eff_call rfl rfl ok50 rfl rfl (show Meets Try.prog 50 ([.pointer (some ⟨g170, 0, none⟩)] : List Value).toArray _ [[(g170, .cells #[iV p168, .slice none ([] : List (List T_impl_Cell)).length 0, iV 0] 69 (0, 0))], []] _ from spec_l09Pen_next.calls H172 hd171) (Mr := ([(g169, .cells #[.slice A164 p163.Points.length c165, iV p163.Cursor, iV p163.Mark] 25 (0, 0))] :: Fs)) ((perm_at (k := 1) rfl).trans ((List.Perm.refl _).cons _)) (fun v173 J174 M175 hq176 hJ177 => ?_)
 replace hle := hle.trans hJ177
 replace hd171 := hd171.mono hJ177
 replace hr162 := hr162.mono hJ177
 replace hr166 := hr166.mono hJ177
 obtain ⟨A178, c179, s180, rfl, rfl, ho181⟩ := hq176
 refine at_end (at_thn (at_join (fun L I Ms => ∃ (k312 : Nat), ∃ (x305 : Int) (x306 : List (List T_impl_Cell)) (A307 : Option Addr) (c308 : Nat) (s309 : Seg) (x311 : Int), L = [(2, .bool p167), (5, .pointer (some ⟨g169, 0, none⟩)), (10, .pointer (some ⟨g170, 0, none⟩))] ∧ Ms = ([(g169, .cells #[.slice A164 p163.Points.length c165, iV p163.Cursor, iV p163.Mark] 25 (0, 0))] :: [(g170, .cells #[iV x305, .slice A307 x306.length c308, iV x311] 69 (0, 0))] :: s309 :: Fs) ∧ spec_l09Lay_j0 k312 x305 x306 x311 p163 p167 = some r ∧ ImmLe I0 I ∧ k312 ≤ k ∧ DOwn (DK.sl k_impl_Cell 71) 36 I A307 c308 x306 s309 ∧ Rd (Kd.int .i64) I A164 c165 p163.Points) ?_ ?_))
 ·
  clear H hle ho181 hr162 hr166
  intro L I Ms h_; obtain ⟨k312, x305, x306, A307, c308, s309, x311, hL_, hM_, H, hle, hk313, ho310, hr166⟩ := h_; rw [hL_, hM_]; clear hL_ hM_ L Ms
  rcases k312 with _ | k312
  · exact (no_none H).elim
  rw [spec_l09Lay_j0] at H
  refine at_seq (at_ops [0, 1, 2, 3] rfl ?_)
  refine at_seg0 [0] [1, 2, 3] [] [2, 5, 10, 34] [(2, .bool p167), (5, .pointer (some ⟨g169, 0, none⟩)), (10, .pointer (some ⟨g170, 0, none⟩)), (34, .pointer (some ⟨g170, 0, none⟩))] ?_
  refine at_eff rfl rfl ?_
  obtain ⟨b7, H314, H⟩ := bind_some H
  refine eff_call rfl rfl ok52 rfl rfl (show Meets Try.prog 52 ([.pointer (some ⟨g170, 0, none⟩)] : List Value).toArray _ [[(g170, .cells #[iV x305, .slice A307 x306.length c308, iV x311] 69 (0, 0))], s309] _ from spec_l09Pen_spot.calls H314 ho310) (Mr := ([(g169, .cells #[.slice A164 p163.Points.length c165, iV p163.Cursor, iV p163.Mark] 25 (0, 0))] :: Fs)) ((perm_at (k := 1) rfl).trans (((perm_at (k := 1) rfl).trans ((List.Perm.refl _).cons _)).cons _)) (fun v315 J316 M317 hq318 hJ319 => ?_)
  replace hle := hle.trans hJ319
  replace ho310 := ho310.mono hJ319
  replace hr166 := hr166.mono hJ319
  obtain ⟨rfl, rfl⟩ := hq318
  refine at_eff rfl rfl ?_
  refine eff_buildSlice (e := 31) (cells := #[iV b7.Line, iV b7.Col]) ([b7] : List T_impl_Spot).length rfl rfl rfl (by kernel_rfl) (fun g320 => ?_)
  have ho321 := own_lit (K := k_impl_Spot) (e := 31) (I := J316) (xs := ([b7] : List T_impl_Spot)) (css := [[iV b7.Line, iV b7.Col]]) (cells := #[iV b7.Line, iV b7.Col]) (b := g320) ⟨rfl, trivial⟩ rfl
  refine at_seg0 [3] [] [] [2, 5, 10, 12] [(2, .bool p167), (5, .pointer (some ⟨g169, 0, none⟩)), (10, .pointer (some ⟨g170, 0, none⟩)), (12, .slice (some ⟨g320, 0, none⟩ : Option Addr) ([b7] : List T_impl_Spot).length (([b7] : List T_impl_Spot).length))] ?_
  refine at_end (at_thn (at_seq (at_ops [0, 1, 2, 3, 4, 5] rfl ?_)))
  refine at_seg1 [0, 1, 2, 3] [4, 5] [(1, iV p163.Cursor), (3, iV p163.Mark)] [2, 5, 10, 12, 38, 40] [(2, .bool p167), (5, .pointer (some ⟨g169, 0, none⟩)), (10, .pointer (some ⟨g170, 0, none⟩)), (12, .slice (some ⟨g320, 0, none⟩ : Option Addr) ([b7] : List T_impl_Spot).length (([b7] : List T_impl_Spot).length)), (38, iV p163.Cursor), (40, iV p163.Mark)] [fun w => w.cell? ⟨g169, 1, none⟩ = some (iV p163.Cursor), fun w => w.cell? ⟨g169, 2, none⟩ = some (iV p163.Mark)] (fun w hs => ⟨hs.var (k := 3) rfl 1 rfl, hs.var (k := 3) rfl 2 rfl⟩) ?_
  refine at_eff rfl rfl ?_
  obtain ⟨b8, H322, H⟩ := bind_some H
  have hm_ := spec_l01Min.calls (I0 := J316) H322
  refine eff_call rfl rfl ok53 rfl rfl (show Meets Try.prog 53 ([iV p163.Cursor, iV p163.Mark] : List Value).toArray _ [] _ from hm_) (Mr := ([(g320, .cells #[iV b7.Line, iV b7.Col] 31 (0, 0))] :: [(g170, .cells #[iV x305, .slice A307 x306.length c308, iV x311] 69 (0, 0))] :: s309 :: [(g169, .cells #[.slice A164 p163.Points.length c165, iV p163.Cursor, iV p163.Mark] 25 (0, 0))] :: Fs)) (List.Perm.refl _) (fun v323 J324 M325 hq326 hJ327 => ?_)
  replace hle := hle.trans hJ327
  replace ho310 := ho310.mono hJ327
  replace ho321 := ho321.mono hJ327
  replace hr166 := hr166.mono hJ327
  obtain ⟨rfl, rfl⟩ := hq326
  refine at_seg0 [5] [] [] [2, 5, 10, 12, 13] [(2, .bool p167), (5, .pointer (some ⟨g169, 0, none⟩)), (10, .pointer (some ⟨g170, 0, none⟩)), (12, .slice (some ⟨g320, 0, none⟩ : Option Addr) ([b7] : List T_impl_Spot).length (([b7] : List T_impl_Spot).length)), (13, iV b8)] ?_
  refine at_end (at_thn (at_seq (at_ops [0, 1, 2, 3, 4, 5] rfl ?_)))
  refine at_seg1 [0, 1, 2, 3] [4, 5] [(1, iV p163.Cursor), (3, iV p163.Mark)] [2, 5, 10, 12, 13, 43, 45] [(2, .bool p167), (5, .pointer (some ⟨g169, 0, none⟩)), (10, .pointer (some ⟨g170, 0, none⟩)), (12, .slice (some ⟨g320, 0, none⟩ : Option Addr) ([b7] : List T_impl_Spot).length (([b7] : List T_impl_Spot).length)), (13, iV b8), (43, iV p163.Cursor), (45, iV p163.Mark)] [fun w => w.cell? ⟨g169, 1, none⟩ = some (iV p163.Cursor), fun w => w.cell? ⟨g169, 2, none⟩ = some (iV p163.Mark)] (fun w hs => ⟨hs.var (k := 3) rfl 1 rfl, hs.var (k := 3) rfl 2 rfl⟩) ?_
  refine at_eff rfl rfl ?_
  obtain ⟨b9, H328, H⟩ := bind_some H
  have hm_ := spec_l01Max.calls (I0 := J324) H328
  refine eff_call rfl rfl ok32 rfl rfl (show Meets Try.prog 32 ([iV p163.Cursor, iV p163.Mark] : List Value).toArray _ [] _ from hm_) (Mr := ([(g320, .cells #[iV b7.Line, iV b7.Col] 31 (0, 0))] :: [(g170, .cells #[iV x305, .slice A307 x306.length c308, iV x311] 69 (0, 0))] :: s309 :: [(g169, .cells #[.slice A164 p163.Points.length c165, iV p163.Cursor, iV p163.Mark] 25 (0, 0))] :: Fs)) (List.Perm.refl _) (fun v329 J330 M331 hq332 hJ333 => ?_)
  replace hle := hle.trans hJ333
  replace ho310 := ho310.mono hJ333
  replace ho321 := ho321.mono hJ333
  replace hr166 := hr166.mono hJ333
  obtain ⟨rfl, rfl⟩ := hq332
  refine at_seg0 [5] [] [] [2, 5, 10, 12, 13, 14] [(2, .bool p167), (5, .pointer (some ⟨g169, 0, none⟩)), (10, .pointer (some ⟨g170, 0, none⟩)), (12, .slice (some ⟨g320, 0, none⟩ : Option Addr) ([b7] : List T_impl_Spot).length (([b7] : List T_impl_Spot).length)), (13, iV b8), (14, iV b9)] ?_
  refine at_end (at_thn (at_seq (at_seq (at_reg0 [] [2, 5, 10, 12, 13, 14, 15] [(2, .bool p167), (5, .pointer (some ⟨g169, 0, none⟩)), (10, .pointer (some ⟨g170, 0, none⟩)), (12, .slice (some ⟨g320, 0, none⟩ : Option Addr) ([b7] : List T_impl_Spot).length (([b7] : List T_impl_Spot).length)), (13, iV b8), (14, iV b9), (15, iV 0)] ?_))))
  refine at_thn (at_block (at_perm ((perm_at (k := 3) rfl).trans (((perm_at (k := 1) rfl).trans ((List.Perm.refl _).cons _)).cons _)) ?_))
  refine at_keep [2, 5, 10, 12, 13, 14, 15] (L2 := [(2, .bool p167), (5, .pointer (some ⟨g169, 0, none⟩)), (10, .pointer (some ⟨g170, 0, none⟩)), (12, .slice (some ⟨g320, 0, none⟩ : Option Addr) ([b7] : List T_impl_Spot).length (([b7] : List T_impl_Spot).length)), (13, iV b8), (14, iV b9), (15, iV 0)]) rfl ?_
  refine at_loop (fun k347 L I Ms => ∃ (x334 : List T_impl_Spot) (A335 : Option Addr) (c336 : Nat) (s337 : Seg) (x339 : Int) (x340 : Int) (x341 : List (List T_impl_Cell)) (A342 : Option Addr) (c343 : Nat) (s344 : Seg) (x346 : Int), L = [(2, .bool p167), (5, .pointer (some ⟨g169, 0, none⟩)), (10, .pointer (some ⟨g170, 0, none⟩)), (12, .slice A335 x334.length c336), (13, iV b8), (14, iV b9), (15, iV x339)] ∧ Ms = ([(g169, .cells #[.slice A164 p163.Points.length c165, iV p163.Cursor, iV p163.Mark] 25 (0, 0))] :: [(g170, .cells #[iV x340, .slice A342 x341.length c343, iV x346] 69 (0, 0))] :: s337 :: s344 :: Fs) ∧ spec_l09Lay_l0 k347 x334 x339 x340 x341 x346 b8 b9 p163 p167 = some r ∧ ImmLe I0 I ∧ k347 ≤ k312 ∧ Own k_impl_Spot 31 I A335 c336 x334 s337 ∧ DOwn (DK.sl k_impl_Cell 71) 36 I A342 c343 x341 s344 ∧ Rd (Kd.int .i64) I A164 c165 p163.Points) ?_ ?_ k312 ⟨([b7] : List T_impl_Spot), (some ⟨g320, 0, none⟩ : Option Addr), ([b7] : List T_impl_Spot).length, [(g320, .cells #[iV b7.Line, iV b7.Col] 31 (0, 0))], 0, x305, x306, A307, c308, s309, x311, rfl, rfl, H, hle, Nat.le_refl _, ho321, ho310, hr166⟩
  · rintro L I Ms ⟨_, _, _, _, _, _, _, _, _, _, _, rfl, rfl, H, _⟩; exact no_none H
  ·
   clear H hle ho310 ho321 hr166
   intro k347 ih348 L I Ms h_; obtain ⟨x334, A335, c336, s337, x339, x340, x341, A342, c343, s344, x346, hL_, hM_, H, hle, hk349, ho338, ho345, hr166⟩ := h_; rw [hL_, hM_]; clear hL_ hM_ L Ms
   rw [spec_l09Lay_l0] at H
   refine at_seq (at_seq (at_reg1 [(2, .slice A164 p163.Points.length c165)] [2, 5, 10, 12, 13, 14, 15, 51] [(2, .bool p167), (5, .pointer (some ⟨g169, 0, none⟩)), (10, .pointer (some ⟨g170, 0, none⟩)), (12, .slice A335 x334.length c336), (13, iV b8), (14, iV b9), (15, iV x339), (51, .bool (decide (x339 < (p163.Points.length : Int))))] [fun w => w.cell? ⟨g169, 0, none⟩ = some (.slice A164 p163.Points.length c165)] (fun w hs => hs.var (k := 0) rfl 0 rfl) ?_))
   refine at_thn ?_
   by_cases h350 : x339 < (p163.Points.length : Int)
   ·
    rw [if_pos h350] at H
    refine at_cond_t rfl (decide_eq_true h350) ?_
    refine at_skip (at_thn (at_seq (at_block (at_seq (at_reg0 [] [2, 5, 10, 12, 13, 14, 15, 16] [(2, .bool p167), (5, .pointer (some ⟨g169, 0, none⟩)), (10, .pointer (some ⟨g170, 0, none⟩)), (12, .slice A335 x334.length c336), (13, iV b8), (14, iV b9), (15, iV x339), (16, iV 0)] ?_)))))
    refine at_thn (at_join (fun L I Ms => ∃ (k455 : Nat), ∃ (x454 : Int), L = [(2, .bool p167), (5, .pointer (some ⟨g169, 0, none⟩)), (10, .pointer (some ⟨g170, 0, none⟩)), (12, .slice A335 x334.length c336), (13, iV b8), (14, iV b9), (15, iV x339), (16, iV x454)] ∧ Ms = ([(g169, .cells #[.slice A164 p163.Points.length c165, iV p163.Cursor, iV p163.Mark] 25 (0, 0))] :: [(g170, .cells #[iV x340, .slice A342 x341.length c343, iV x346] 69 (0, 0))] :: s337 :: s344 :: Fs) ∧ spec_l09Lay_j1 k455 x454 b8 b9 p163 p167 x334 x339 x340 x341 x346 = some r ∧ ImmLe I0 I ∧ k455 ≤ k347 ∧ Own k_impl_Spot 31 I A335 c336 x334 s337 ∧ DOwn (DK.sl k_impl_Cell 71) 36 I A342 c343 x341 s344 ∧ Rd (Kd.int .i64) I A164 c165 p163.Points) ?_ ?_)
    ·
     clear H hle ho338 ho345 hr166
     intro L I Ms h_; obtain ⟨k455, x454, hL_, hM_, H, hle, hk456, ho338, ho345, hr166⟩ := h_; rw [hL_, hM_]; clear hL_ hM_ L Ms
     rcases k455 with _ | k455
     · exact (no_none H).elim
     rw [spec_l09Lay_j1] at H
     refine at_seq (at_ops [0, 1, 2, 3, 4, 5, 6, 7] rfl ?_)
     obtain ⟨h457, H⟩ := ite_some H
     refine at_seg1 [0, 1, 2, 3, 4, 5, 6] [7] [(2, .slice A164 p163.Points.length c165), (5, iV (rdA 0 p163.Points x339))] [2, 5, 10, 12, 13, 14, 15, 65, 70, 71] [(2, .bool p167), (5, .pointer (some ⟨g169, 0, none⟩)), (10, .pointer (some ⟨g170, 0, none⟩)), (12, .slice A335 x334.length c336), (13, iV b8), (14, iV b9), (15, iV x339), (65, .pointer (some ⟨g170, 0, none⟩)), (70, iV (rdA 0 p163.Points x339)), (71, iV x454)] [fun w => w.cell? ⟨g169, 0, none⟩ = some (.slice A164 p163.Points.length c165), fun _ => A164.isSome = true ∧ 0 ≤ x339 ∧ x339 < ((p163.Points.length : Nat) : Int), fun w => w.cell? ((A164.getD ad0).add (x339.toNat * 1)) = some (iV (rdA 0 p163.Points x339))] (fun w hs => ⟨hs.var (k := 0) rfl 0 rfl, ⟨hr166.ne x339 h457 h350, h457, h350⟩, hr166.one 0 x339 h457 h350 hs⟩) ?_
     refine at_eff rfl rfl ?_
     obtain ⟨b10, H458, H⟩ := bind_some H
     refine eff_call rfl rfl ok51 rfl rfl (show Meets Try.prog 51 ([.pointer (some ⟨g170, 0, none⟩), iV (rdA 0 p163.Points x339), iV x454] : List Value).toArray _ [[(g170, .cells #[iV x340, .slice A342 x341.length c343, iV x346] 69 (0, 0))], s344] _ from spec_l09Pen_point.calls H458 ho345) (Mr := ([(g169, .cells #[.slice A164 p163.Points.length c165, iV p163.Cursor, iV p163.Mark] 25 (0, 0))] :: s337 :: Fs)) ((perm_at (k := 1) rfl).trans (((perm_at (k := 2) rfl).trans ((List.Perm.refl _).cons _)).cons _)) (fun v459 J460 M461 hq462 hJ463 => ?_)
     replace hle := hle.trans hJ463
     replace ho338 := ho338.mono hJ463
     replace ho345 := ho345.mono hJ463
     replace hr166 := hr166.mono hJ463
     obtain ⟨A464, c465, s466, rfl, rfl, ho467⟩ := hq462
     refine at_end (at_thn (at_ops [0, 1, 2, 3, 4, 5] rfl ?_))
     refine at_seg0 [0, 1] [2, 3, 4, 5] [] [2, 5, 10, 12, 13, 14, 15, 73, 74] [(2, .bool p167), (5, .pointer (some ⟨g169, 0, none⟩)), (10, .pointer (some ⟨g170, 0, none⟩)), (12, .slice A335 x334.length c336), (13, iV b8), (14, iV b9), (15, iV x339), (73, .slice A335 x334.length c336), (74, .pointer (some ⟨g170, 0, none⟩))] ?_
     refine at_eff rfl rfl ?_
     obtain ⟨b11, H468, H⟩ := bind_some H
     refine eff_call rfl rfl ok52 rfl rfl (show Meets Try.prog 52 ([.pointer (some ⟨g170, 0, none⟩)] : List Value).toArray _ [[(g170, .cells #[iV b10.cols, .slice A464 b10.rows.length c465, iV b10.col] 69 (0, 0))], s466] _ from spec_l09Pen_spot.calls H468 ho467) (Mr := ([(g169, .cells #[.slice A164 p163.Points.length c165, iV p163.Cursor, iV p163.Mark] 25 (0, 0))] :: s337 :: Fs)) (List.Perm.refl _) (fun v469 J470 M471 hq472 hJ473 => ?_)
     replace hle := hle.trans hJ473
     replace ho338 := ho338.mono hJ473
     replace ho467 := ho467.mono hJ473
     replace hr166 := hr166.mono hJ473
     obtain ⟨rfl, rfl⟩ := hq472
     refine at_eff rfl rfl ?_
     refine eff_buildSlice (e := 31) (cells := #[iV b11.Line, iV b11.Col]) ([b11] : List T_impl_Spot).length rfl rfl rfl (by kernel_rfl) (fun g474 => ?_)
     have ho475 := own_lit (K := k_impl_Spot) (e := 31) (I := J470) (xs := ([b11] : List T_impl_Spot)) (css := [[iV b11.Line, iV b11.Col]]) (cells := #[iV b11.Line, iV b11.Col]) (b := g474) ⟨rfl, trivial⟩ rfl
     refine at_eff rfl rfl ?_
     obtain ⟨h476, H⟩ := ite_some H
     obtain ⟨i_, hi_, hz_, hs_, hb_⟩ := info31
     refine eff_append (K := k_impl_Spot) (xs := x334) (ys := ([b11] : List T_impl_Spot)) 4 rfl rfl rfl rfl rfl und57 und57 hi_ hz_ hs_ rfl rfl rfl ho338 rfl (fun w hs => ho475.rowAt (k := 0) hs rfl) (by rw [hb_]; omega) (by omega) (fun A477 c478 s479 ho480 => ?_)
     refine at_seg0 [5] [] [] [2, 5, 10, 12, 13, 14, 15] [(2, .bool p167), (5, .pointer (some ⟨g169, 0, none⟩)), (10, .pointer (some ⟨g170, 0, none⟩)), (12, .slice A477 (x334 ++ ([b11] : List T_impl_Spot)).length c478), (13, iV b8), (14, iV b9), (15, iV x339)] ?_
     refine at_end (at_in_norm (at_thn (at_reg0 [] [2, 5, 10, 12, 13, 14, 15] [(2, .bool p167), (5, .pointer (some ⟨g169, 0, none⟩)), (10, .pointer (some ⟨g170, 0, none⟩)), (12, .slice A477 (x334 ++ ([b11] : List T_impl_Spot)).length c478), (13, iV b8), (14, iV b9), (15, iV (IntKind.i64.wrap (x339 + 1)))] ?_)))
     refine at_thn (at_drop (k := 0) rfl rfl ?_)
     refine at_sg ([(g170, .cells #[iV b10.cols, .slice A464 b10.rows.length c465, iV b10.col] 69 (0, 0))] :: s466 :: [(g169, .cells #[.slice A164 p163.Points.length c165, iV p163.Cursor, iV p163.Mark] 25 (0, 0))] :: s479 :: Fs) ?_
     refine at_perm ((perm_at (k := 2) rfl).trans ((((perm_at (k := 1) rfl).trans ((List.Perm.refl _).cons _)).cons _).cons _)) ?_
     refine at_keep [2, 5, 10, 12, 13, 14, 15] (L2 := [(2, .bool p167), (5, .pointer (some ⟨g169, 0, none⟩)), (10, .pointer (some ⟨g170, 0, none⟩)), (12, .slice A477 (x334 ++ ([b11] : List T_impl_Spot)).length c478), (13, iV b8), (14, iV b9), (15, iV (IntKind.i64.wrap (x339 + 1)))]) rfl ?_
     exact ih348 _ (by omega) _ _ _ ⟨(x334 ++ ([b11] : List T_impl_Spot)), A477, c478, s479, IntKind.i64.wrap (x339 + 1), b10.cols, b10.rows, A464, c465, s466, b10.col, rfl, rfl, H, hle, by omega, ho480, ho467, hr166⟩
    ·
     intro Jn351
     refine at_seq ?_
     by_cases h351 : p167 = true
     ·
      rw [if_pos h351] at H
      by_cases h352 : x339 ≥ b8
      ·
       rw [if_pos h352] at H
       refine at_reg1 [(1, .bool true), (6, .bool true)] [2, 5, 10, 12, 13, 14, 15, 16, 64] [(2, .bool p167), (5, .pointer (some ⟨g169, 0, none⟩)), (10, .pointer (some ⟨g170, 0, none⟩)), (12, .slice A335 x334.length c336), (13, iV b8), (14, iV b9), (15, iV x339), (16, iV 0), (64, .bool (decide (x339 < b9)))] [fun _ => (.bool p167 : Value) = .bool true, oT (x339 ≥ b8)] (fun w hs => ⟨congrArg Value.bool (h351), cT (h352)⟩) ?_
       refine at_thn ?_
       by_cases h353 : x339 < b9
       ·
        rw [if_pos h353] at H
        refine at_cond_t rfl (decide_eq_true h353) ?_
        refine at_reg0 [] [2, 5, 10, 12, 13, 14, 15, 16] [(2, .bool p167), (5, .pointer (some ⟨g169, 0, none⟩)), (10, .pointer (some ⟨g170, 0, none⟩)), (12, .slice A335 x334.length c336), (13, iV b8), (14, iV b9), (15, iV x339), (16, iV 1)] ?_
        refine at_thn (at_keep [2, 5, 10, 12, 13, 14, 15, 16] (L2 := [(2, .bool p167), (5, .pointer (some ⟨g169, 0, none⟩)), (10, .pointer (some ⟨g170, 0, none⟩)), (12, .slice A335 x334.length c336), (13, iV b8), (14, iV b9), (15, iV x339), (16, iV 1)]) rfl ?_)
        exact Jn351 _ _ _ ⟨_, 1, rfl, rfl, H, hle, by omega, ho338, ho345, hr166⟩
       ·
        rw [if_neg h353] at H
        refine at_cond_f rfl (decide_eq_false h353) ?_
        refine at_skip (at_thn (at_keep [2, 5, 10, 12, 13, 14, 15, 16] (L2 := [(2, .bool p167), (5, .pointer (some ⟨g169, 0, none⟩)), (10, .pointer (some ⟨g170, 0, none⟩)), (12, .slice A335 x334.length c336), (13, iV b8), (14, iV b9), (15, iV x339), (16, iV 0)]) rfl ?_))
        exact Jn351 _ _ _ ⟨_, 0, rfl, rfl, H, hle, by omega, ho338, ho345, hr166⟩
      ·
       rw [if_neg h352] at H
       refine at_reg1 [(1, .bool true), (6, .bool false)] [2, 5, 10, 12, 13, 14, 15, 16, 64] [(2, .bool p167), (5, .pointer (some ⟨g169, 0, none⟩)), (10, .pointer (some ⟨g170, 0, none⟩)), (12, .slice A335 x334.length c336), (13, iV b8), (14, iV b9), (15, iV x339), (16, iV 0), (64, .bool false)] [fun _ => (.bool p167 : Value) = .bool true, oF (x339 ≥ b8)] (fun w hs => ⟨congrArg Value.bool (h351), cF (h352)⟩) ?_
       refine at_thn (at_cond_f rfl (rfl) ?_)
       refine at_skip (at_thn (at_keep [2, 5, 10, 12, 13, 14, 15, 16] (L2 := [(2, .bool p167), (5, .pointer (some ⟨g169, 0, none⟩)), (10, .pointer (some ⟨g170, 0, none⟩)), (12, .slice A335 x334.length c336), (13, iV b8), (14, iV b9), (15, iV x339), (16, iV 0)]) rfl ?_))
       exact Jn351 _ _ _ ⟨_, 0, rfl, rfl, H, hle, by omega, ho338, ho345, hr166⟩
     ·
      rw [if_neg h351] at H
      refine at_reg1 [(1, .bool false)] [2, 5, 10, 12, 13, 14, 15, 16, 64] [(2, .bool p167), (5, .pointer (some ⟨g169, 0, none⟩)), (10, .pointer (some ⟨g170, 0, none⟩)), (12, .slice A335 x334.length c336), (13, iV b8), (14, iV b9), (15, iV x339), (16, iV 0), (64, .bool false)] [fun _ => (.bool p167 : Value) = .bool false] (fun w hs => congrArg Value.bool (ff_of h351)) ?_
      refine at_thn (at_cond_f rfl (rfl) ?_)
      refine at_skip (at_thn (at_keep [2, 5, 10, 12, 13, 14, 15, 16] (L2 := [(2, .bool p167), (5, .pointer (some ⟨g169, 0, none⟩)), (10, .pointer (some ⟨g170, 0, none⟩)), (12, .slice A335 x334.length c336), (13, iV b8), (14, iV b9), (15, iV x339), (16, iV 0)]) rfl ?_))
      exact Jn351 _ _ _ ⟨_, 0, rfl, rfl, H, hle, by omega, ho338, ho345, hr166⟩
   ·
    rw [if_neg h350] at H
    refine at_cond_f rfl (decide_eq_false h350) ?_
    refine at_exit (at_then_exit (at_then_exit (at_in_hit (at_thn (at_seq (at_reg0 [] [8, 9] [(8, .pointer (some ⟨g170, 0, none⟩)), (9, .slice A335 x334.length c336)] ?_))))))
    refine at_thn (at_ret ?_)
    obtain rfl := Option.some.inj H
    refine at_drop (k := 0) rfl rfl ?_
    refine at_perm (((perm_at (k := 1) rfl).trans ((List.Perm.refl _).cons _)).cons _) ?_
    exact at_done0 [.pointer (some ⟨g170, 0, none⟩), .slice A335 x334.length c336] (.inl rfl) [.tmp 8, .tmp 9] fun w hs => ⟨_, _, [[(g170, .cells #[iV x340, .slice A342 x341.length c343, iV x346] 69 (0, 0))], s344, s337], rfl, ⟨g170, A342, c343, s344, A335, c336, s337, rfl, rfl, ho345, ho338⟩, hle, hs⟩
 ·
  intro Jn182
  refine at_seq (at_reg0 [] [0, 2, 5, 10, 11] [(0, .slice A160 p159.length c161), (2, .bool p167), (5, .pointer (some ⟨g169, 0, none⟩)), (10, .pointer (some ⟨g170, 0, none⟩)), (11, iV 0)] ?_)
  refine at_thn (at_block (at_perm ((perm_at (k := 2) rfl).trans ((List.Perm.refl _).cons _)) ?_))
  refine at_keep [0, 2, 5, 10, 11] (L2 := [(0, .slice A160 p159.length c161), (2, .bool p167), (5, .pointer (some ⟨g169, 0, none⟩)), (10, .pointer (some ⟨g170, 0, none⟩)), (11, iV 0)]) rfl ?_
  refine at_loop (fun k190 L I Ms => ∃ (x182 : Int) (x183 : Int) (x184 : List (List T_impl_Cell)) (A185 : Option Addr) (c186 : Nat) (s187 : Seg) (x189 : Int), L = [(0, .slice A160 p159.length c161), (2, .bool p167), (5, .pointer (some ⟨g169, 0, none⟩)), (10, .pointer (some ⟨g170, 0, none⟩)), (11, iV x182)] ∧ Ms = ([(g169, .cells #[.slice A164 p163.Points.length c165, iV p163.Cursor, iV p163.Mark] 25 (0, 0))] :: [(g170, .cells #[iV x183, .slice A185 x184.length c186, iV x189] 69 (0, 0))] :: s187 :: Fs) ∧ spec_l09Lay_l1 k190 x182 x183 x184 x189 p159 p163 p167 = some r ∧ ImmLe I0 I ∧ k190 ≤ k ∧ DOwn (DK.sl k_impl_Cell 71) 36 I A185 c186 x184 s187 ∧ Rd (Kd.int .i64) I A160 c161 p159 ∧ Rd (Kd.int .i64) I A164 c165 p163.Points) ?_ ?_ k ⟨0, b5.cols, b5.rows, A178, c179, s180, b5.col, rfl, rfl, H, hle, Nat.le_refl _, ho181, hr162, hr166⟩
  · rintro L I Ms ⟨_, _, _, _, _, _, _, rfl, rfl, H, _⟩; exact no_none H
  ·
   clear H hle ho181 hr162 hr166
   intro k190 ih191 L I Ms h_; obtain ⟨x182, x183, x184, A185, c186, s187, x189, hL_, hM_, H, hle, hk192, ho188, hr162, hr166⟩ := h_; rw [hL_, hM_]; clear hL_ hM_ L Ms
   rw [spec_l09Lay_l1] at H
   refine at_seq (at_seq (at_reg0 [] [0, 2, 5, 10, 11, 25] [(0, .slice A160 p159.length c161), (2, .bool p167), (5, .pointer (some ⟨g169, 0, none⟩)), (10, .pointer (some ⟨g170, 0, none⟩)), (11, iV x182), (25, .bool (decide (x182 < (p159.length : Int))))] ?_))
   refine at_thn ?_
   by_cases h193 : x182 < (p159.length : Int)
   ·
    rw [if_pos h193] at H
    refine at_cond_t rfl (decide_eq_true h193) ?_
    refine at_skip (at_thn (at_seq (at_block (at_ops [0, 1, 2, 3, 4, 5] rfl ?_))))
    obtain ⟨h194, H⟩ := ite_some H
    refine at_seg1 [0, 1, 2, 3, 4] [5] [(4, iV (rdA 0 p159 x182))] [0, 2, 5, 10, 11, 28, 32] [(0, .slice A160 p159.length c161), (2, .bool p167), (5, .pointer (some ⟨g169, 0, none⟩)), (10, .pointer (some ⟨g170, 0, none⟩)), (11, iV x182), (28, .pointer (some ⟨g170, 0, none⟩)), (32, iV (rdA 0 p159 x182))] [fun _ => A160.isSome = true ∧ 0 ≤ x182 ∧ x182 < ((p159.length : Nat) : Int), fun w => w.cell? ((A160.getD ad0).add (x182.toNat * 1)) = some (iV (rdA 0 p159 x182))] (fun w hs => ⟨⟨hr162.ne x182 h194 h193, h194, h193⟩, hr162.one 0 x182 h194 h193 hs⟩) ?_
    refine at_eff rfl rfl ?_
    obtain ⟨b6, H195, H⟩ := bind_some H
    refine eff_call rfl rfl ok51 rfl rfl (show Meets Try.prog 51 ([.pointer (some ⟨g170, 0, none⟩), iV (rdA 0 p159 x182), iV 0] : List Value).toArray _ [[(g170, .cells #[iV x183, .slice A185 x184.length c186, iV x189] 69 (0, 0))], s187] _ from spec_l09Pen_point.calls H195 ho188) (Mr := ([(g169, .cells #[.slice A164 p163.Points.length c165, iV p163.Cursor, iV p163.Mark] 25 (0, 0))] :: Fs)) ((perm_at (k := 1) rfl).trans (((perm_at (k := 1) rfl).trans ((List.Perm.refl _).cons _)).cons _)) (fun v196 J197 M198 hq199 hJ200 => ?_)
    replace hle := hle.trans hJ200
    replace ho188 := ho188.mono hJ200
    replace hr162 := hr162.mono hJ200
    replace hr166 := hr166.mono hJ200
    obtain ⟨A201, c202, s203, rfl, rfl, ho204⟩ := hq199
    refine at_end (at_in_norm (at_thn (at_reg0 [] [0, 2, 5, 10, 11] [(0, .slice A160 p159.length c161), (2, .bool p167), (5, .pointer (some ⟨g169, 0, none⟩)), (10, .pointer (some ⟨g170, 0, none⟩)), (11, iV (IntKind.i64.wrap (x182 + 1)))] ?_)))
    refine at_thn (at_perm ((perm_at (k := 2) rfl).trans ((List.Perm.refl _).cons _)) ?_)
    refine at_keep [0, 2, 5, 10, 11] (L2 := [(0, .slice A160 p159.length c161), (2, .bool p167), (5, .pointer (some ⟨g169, 0, none⟩)), (10, .pointer (some ⟨g170, 0, none⟩)), (11, iV (IntKind.i64.wrap (x182 + 1)))]) rfl ?_
    exact ih191 _ (by omega) _ _ _ ⟨IntKind.i64.wrap (x182 + 1), b6.cols, b6.rows, A201, c202, s203, b6.col, rfl, rfl, H, hle, by omega, ho204, hr162, hr166⟩
   ·
    rw [if_neg h193] at H
    refine at_cond_f rfl (decide_eq_false h193) ?_
    refine at_exit (at_then_exit (at_then_exit (at_in_hit (at_thn (at_keep [2, 5, 10] (L2 := [(2, .bool p167), (5, .pointer (some ⟨g169, 0, none⟩)), (10, .pointer (some ⟨g170, 0, none⟩))]) rfl ?_)))))
    exact Jn182 _ _ _ ⟨_, x183, x184, A185, c186, s187, x189, rfl, rfl, H, hle, by omega, ho188, hr166⟩

/-! ### loop.example/g00146/spec.GridNew: function 31 -/
def spec_GridNew (p3180 : Int) (p3181 : Int) : Option T_impl_Grid := (spec_l08Size p3180 p3181).bind fun b6 => (if b6 = true then (if 0 ≤ (IntKind.i64.wrap (p3180 * p3181)) then (if (IntKind.i64.wrap (p3180 * p3181)) ≤ 8796093022208 then (some (⟨p3180, p3181, (List.replicate (IntKind.i64.wrap (p3180 * p3181)).toNat z_impl_Cell : List T_impl_Cell), 0, 0, false, 0⟩ : T_impl_Grid)) else none) else none) else (some (⟨0, 0, ([] : List T_impl_Cell), 0, 0, false, 0⟩ : T_impl_Grid)))
set_option maxHeartbeats 4000000 in
set_option maxRecDepth 100000 in
theorem spec_GridNew.calls {p3180 : Int} {p3181 : Int} {r : T_impl_Grid} {I0 : Imm} (H : spec_GridNew p3180 p3181 = some r) :
    Meets Try.prog 31 ([.int .i64 p3180, .int .i64 p3181] : List Value).toArray I0 [] (fun v J M => ∃ (A_1 : Option Addr) (c_2 : Nat) (s_3 : Seg), v = .agg #[.int .i64 r.Rows, .int .i64 r.Cols, .slice A_1 r.Cells.length c_2, .int .i64 r.Row, .int .i64 r.Col, .bool r.Hang, .int .i64 r.Attr] ∧ M = [s_3] ∧ DOwn d_impl_Cell 71 J A_1 c_2 r.Cells s_3) := by
 have hle := ImmLe.refl I0
 unfold spec_GridNew at H
 refine fn_intro (fn := Try.f31) 17 Try.func31 rfl rfl rfl (fun E Fs => ?_)
 refine at_seq (at_ops [0] rfl ?_)
 refine at_eff rfl rfl ?_
 obtain ⟨i_, hi_, hz_, _, _⟩ := info38
 refine eff_alloc rfl rfl hi_ hz_ #[iV 0, iV 0, .slice none ([] : List T_impl_Cell).length 0, iV 0, iV 0, .bool false, iV 0] rfl (fun g3182 => ?_)
 refine at_end (at_thn (at_seq (at_seq (at_ops [0, 1, 2, 3] rfl ?_))))
 refine at_seg0 [0, 1] [2, 3] [] [0, 1, 4, 5, 6] [(0, iV p3180), (1, iV p3181), (4, .pointer (some ⟨g3182, 0, none⟩)), (5, iV p3180), (6, iV p3181)] ?_
 refine at_eff rfl rfl ?_
 obtain ⟨b6, H3183, H⟩ := bind_some H
 have hm_ := spec_l08Size.calls (I0 := I0) H3183
 refine eff_call rfl rfl ok26 rfl rfl (show Meets Try.prog 26 ([iV p3180, iV p3181] : List Value).toArray _ [] _ from hm_) (Mr := ([(g3182, .cells #[iV 0, iV 0, .slice none ([] : List T_impl_Cell).length 0, iV 0, iV 0, .bool false, iV 0] 38 (0, 0))] :: Fs)) (List.Perm.refl _) (fun v3184 J3185 M3186 hq3187 hJ3188 => ?_)
 replace hle := hle.trans hJ3188
 obtain ⟨rfl, rfl⟩ := hq3187
 refine at_seg0 [3] [] [] [0, 1, 4, 8] [(0, iV p3180), (1, iV p3181), (4, .pointer (some ⟨g3182, 0, none⟩)), (8, .bool (!b6))] ?_
 refine at_end (at_thn ?_)
 by_cases h3189 : b6 = true
 ·
  rw [if_pos h3189] at H
  refine at_cond_f rfl (not_ff (h3189)) ?_
  refine at_skip (at_thn (at_seq (at_ops [0, 1, 2, 3, 4, 5, 6, 7] rfl ?_)))
  refine at_seg0 [0, 1, 2, 3, 4] [5, 6, 7] [] [4, 10, 11, 14] [(4, .pointer (some ⟨g3182, 0, none⟩)), (10, iV p3180), (11, iV p3181), (14, iV (IntKind.i64.wrap (p3180 * p3181)))] ?_
  refine at_eff rfl rfl ?_
  obtain ⟨h3190, H⟩ := ite_some H
  obtain ⟨h3191, H⟩ := ite_some H
  obtain ⟨i_, hi_, hz_, hs_, hb_⟩ := info71
  refine eff_makeD (D := d_impl_Cell) (d := z_impl_Cell) rfl rfl rfl rfl und36 hi_ hz_ hs_ rfl rfl h3190 (by rw [hb_]; omega) (by omega) (fun g3192 s3193 ho3194 => ?_)
  refine at_seg0 [6] [7] [] [4, 16] [(4, .pointer (some ⟨g3182, 0, none⟩)), (16, .agg #[iV p3180, iV p3181, .slice (some ⟨g3192, 0, none⟩ : Option Addr) (List.replicate (IntKind.i64.wrap (p3180 * p3181)).toNat z_impl_Cell : List T_impl_Cell).length ((IntKind.i64.wrap (p3180 * p3181)).toNat), iV 0, iV 0, .bool false, iV 0])] ?_
  refine at_eff rfl rfl ?_
  refine eff_store 1 rfl rfl rfl rfl rfl rfl (.inl (Nat.le_refl _)) rfl (Nat.le_of_ble_eq_true (by kernel_rfl)) rfl ?_
  refine at_sg (s3193 :: [(g3182, .cells #[iV p3180, iV p3181, .slice (some ⟨g3192, 0, none⟩ : Option Addr) (List.replicate (IntKind.i64.wrap (p3180 * p3181)).toNat z_impl_Cell : List T_impl_Cell).length ((IntKind.i64.wrap (p3180 * p3181)).toNat), iV 0, iV 0, .bool false, iV 0] 38 (0, 0))] :: Fs) ?_
  refine at_end (at_thn (at_ret ?_))
  obtain rfl := Option.some.inj H
  refine at_done (vs := [.agg #[iV p3180, iV p3181, .slice (some ⟨g3192, 0, none⟩ : Option Addr) (List.replicate (IntKind.i64.wrap (p3180 * p3181)).toNat z_impl_Cell : List T_impl_Cell).length ((IntKind.i64.wrap (p3180 * p3181)).toNat), iV 0, iV 0, .bool false, iV 0]]) (obs := [fun w => CellsAt w ⟨g3182, 0, none⟩ [iV p3180, iV p3181, .slice (some ⟨g3192, 0, none⟩ : Option Addr) (List.replicate (IntKind.i64.wrap (p3180 * p3181)).toNat z_impl_Cell : List T_impl_Cell).length ((IntKind.i64.wrap (p3180 * p3181)).toNat), iV 0, iV 0, .bool false, iV 0] 0]) (.inl rfl) [.cell 4 38] [(4, .agg #[iV p3180, iV p3181, .slice (some ⟨g3192, 0, none⟩ : Option Addr) (List.replicate (IntKind.i64.wrap (p3180 * p3181)).toNat z_impl_Cell : List T_impl_Cell).length ((IntKind.i64.wrap (p3180 * p3181)).toNat), iV 0, iV 0, .bool false, iV 0])] rfl (by kernel_rfl) (fun w hs => cellsV (k := 1) hs rfl _ 0 (Nat.le_of_ble_eq_true (by kernel_rfl)) rfl) (fun w hs => ⟨_, _, [s3193], rfl, ⟨(some ⟨g3192, 0, none⟩ : Option Addr), (IntKind.i64.wrap (p3180 * p3181)).toNat, s3193, rfl, rfl, ho3194⟩, hle, (hs.tail (perm_at (k := 1) rfl))⟩)
 ·
  rw [if_neg h3189] at H
  refine at_cond_t rfl (not_tt (ff_of h3189)) ?_
  refine at_seq (at_ops [0, 1] rfl ?_)
  refine at_seg0 [0] [1] [] [4, 9] [(4, .pointer (some ⟨g3182, 0, none⟩)), (9, .agg #[iV 0, iV 0, .slice none ([] : List T_impl_Cell).length 0, iV 0, iV 0, .bool false, iV 0])] ?_
  refine at_eff rfl rfl ?_
  refine eff_store 0 rfl rfl rfl rfl rfl rfl (.inl (Nat.le_refl _)) rfl (Nat.le_of_ble_eq_true (by kernel_rfl)) rfl ?_
  refine at_sg ([(g3182, .cells #[iV 0, iV 0, .slice none ([] : List T_impl_Cell).length 0, iV 0, iV 0, .bool false, iV 0] 38 (0, 0))] :: Fs) ?_
  refine at_end (at_thn (at_ret (at_then_ret (at_nilseg ?_))))
  have hd3195 := DOwn.nil d_impl_Cell 71 J3185
  obtain rfl := Option.some.inj H
  refine at_done (vs := [.agg #[iV 0, iV 0, .slice none ([] : List T_impl_Cell).length 0, iV 0, iV 0, .bool false, iV 0]]) (obs := [fun w => CellsAt w ⟨g3182, 0, none⟩ [iV 0, iV 0, .slice none ([] : List T_impl_Cell).length 0, iV 0, iV 0, .bool false, iV 0] 0]) (.inl rfl) [.cell 4 38] [(4, .agg #[iV 0, iV 0, .slice none ([] : List T_impl_Cell).length 0, iV 0, iV 0, .bool false, iV 0])] rfl (by kernel_rfl) (fun w hs => cellsV (k := 1) hs rfl _ 0 (Nat.le_of_ble_eq_true (by kernel_rfl)) rfl) (fun w hs => ⟨_, _, [[]], rfl, ⟨none, 0, [], rfl, rfl, hd3195⟩, hle, (hs.tail (perm_at (k := 1) rfl))⟩)
end Go.Proofs.Ytnhnipdanpcbeaa
