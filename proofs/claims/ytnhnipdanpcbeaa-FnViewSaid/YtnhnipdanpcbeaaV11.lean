import Derived.Test.YtnhnipdanpcbeaaV10
namespace Go.Proofs.Ytnhnipdanpcbeaa
open Go Eng
set_option linter.unusedVariables false
set_option linter.unusedSimpArgs false
/-! ### (*loop.example/g00146/impl.layout).point: function 47 -/
def impl_layout_point_l0 : Nat → Int → Int → Int → Int → (List T_impl_seen) → Bool → (List T_impl_Spot) → (List Int) → Int → Option T_impl_layout
  | 0, _, _, _, _, _, _, _, _, _ => none
  | k + 1, x7228, x7229, x7230, x7231, x7232, x7237, x7238, b8, p7202 => if x7228 < (b8.length : Int) then (if 0 ≤ x7228 then ((impl_WidthOf k (rdA 0 b8 x7228)).bind fun b9 => (if b9 = 0 then (if x7237 = true then (if 0 ≤ (IntKind.i64.wrap ((x7232.length : Int) - 1)) then (if (IntKind.i64.wrap ((x7232.length : Int) - 1)) < (x7232.length : Int) then (if (((rdA z_impl_seen x7232 (IntKind.i64.wrap ((x7232.length : Int) - 1))).cell.Points).length : Int) < 4 then (if ((rdA z_impl_seen x7232 (IntKind.i64.wrap ((x7232.length : Int) - 1))).cell.Points).length + ([rdA 0 b8 x7228] : List Int).length ≤ 17592186044416 then (impl_layout_point_l0 k (IntKind.i64.wrap (x7228 + 1)) x7229 x7230 x7231 (x7232.set (IntKind.i64.wrap ((x7232.length : Int) - 1)).toNat (⟨(⟨((rdA z_impl_seen x7232 (IntKind.i64.wrap ((x7232.length : Int) - 1))).cell.Points ++ ([rdA 0 b8 x7228] : List Int)), (rdA z_impl_seen x7232 (IntKind.i64.wrap ((x7232.length : Int) - 1))).cell.Attr⟩ : T_impl_Cell), (rdA z_impl_seen x7232 (IntKind.i64.wrap ((x7232.length : Int) - 1))).row, (rdA z_impl_seen x7232 (IntKind.i64.wrap ((x7232.length : Int) - 1))).col⟩ : T_impl_seen)) x7237 x7238 b8 p7202) else none) else (impl_layout_point_l0 k (IntKind.i64.wrap (x7228 + 1)) x7229 x7230 x7231 x7232 x7237 x7238 b8 p7202)) else none) else none) else (impl_layout_point_l0 k (IntKind.i64.wrap (x7228 + 1)) x7229 x7230 x7231 x7232 x7237 x7238 b8 p7202)) else (if (IntKind.i64.wrap (x7229 - x7231)) < b9 then ((impl_layout_next (⟨x7229, x7230, x7231, x7232, x7237, x7238⟩ : T_impl_layout)).bind fun b10 => (if b10.cells.length + ([(⟨(⟨([rdA 0 b8 x7228] : List Int), p7202⟩ : T_impl_Cell), b10.row, b10.col⟩ : T_impl_seen)] : List T_impl_seen).length ≤ 2932031007402 then (impl_layout_point_l0 k (IntKind.i64.wrap (x7228 + 1)) b10.cols b10.row (IntKind.i64.wrap (b10.col + b9)) (b10.cells ++ ([(⟨(⟨([rdA 0 b8 x7228] : List Int), p7202⟩ : T_impl_Cell), b10.row, b10.col⟩ : T_impl_seen)] : List T_impl_seen)) true b10.spots b8 p7202) else none)) else (if x7232.length + ([(⟨(⟨([rdA 0 b8 x7228] : List Int), p7202⟩ : T_impl_Cell), x7230, x7231⟩ : T_impl_seen)] : List T_impl_seen).length ≤ 2932031007402 then (impl_layout_point_l0 k (IntKind.i64.wrap (x7228 + 1)) x7229 x7230 (IntKind.i64.wrap (x7231 + b9)) (x7232 ++ ([(⟨(⟨([rdA 0 b8 x7228] : List Int), p7202⟩ : T_impl_Cell), x7230, x7231⟩ : T_impl_seen)] : List T_impl_seen)) true x7238 b8 p7202) else none)))) else none) else (some (⟨x7229, x7230, x7231, x7232, x7237, x7238⟩ : T_impl_layout))
def impl_layout_point (k : Nat) (p7192 : T_impl_layout) (p7201 : Int) (p7202 : Int) : Option T_impl_layout := if p7201 = 10 then ((impl_layout_next p7192).bind fun b7 => (some b7)) else ((impl_shown p7201).bind fun b8 => (impl_layout_point_l0 k 0 p7192.cols p7192.row p7192.col p7192.cells p7192.inRow p7192.spots b8 p7202))
set_option maxHeartbeats 4000000 in
set_option maxRecDepth 100000 in
theorem impl_layout_point.calls {k : Nat} {p7192 : T_impl_layout} {p7201 : Int} {p7202 : Int} {r : T_impl_layout} {I0 : Imm} {g7191 : Nat} {A7193 : Option Addr} {c7194 : Nat} {s7195 : Seg} {A7197 : Option Addr} {c7198 : Nat} {s7199 : Seg} (H : impl_layout_point k p7192 p7201 p7202 = some r) (ho7196 : DOwn d_impl_seen 74 I0 A7193 c7194 p7192.cells s7195) (ho7200 : Own k_impl_Spot 31 I0 A7197 c7198 p7192.spots s7199) :
    Meets Try.prog 47 ([.pointer (some ⟨g7191, 0, none⟩), .int .i64 p7201, .int .i64 p7202] : List Value).toArray I0 [[(g7191, .cells #[.int .i64 p7192.cols, .int .i64 p7192.row, .int .i64 p7192.col, .slice A7193 p7192.cells.length c7194, .bool p7192.inRow, .slice A7197 p7192.spots.length c7198] 63 (0, 0))], s7195, s7199] (fun v J M => ∃ (A_1 : Option Addr) (c_2 : Nat) (s_3 : Seg) (A_4 : Option Addr) (c_5 : Nat) (s_6 : Seg), v = .tuple #[] ∧ M = [[(g7191, .cells #[.int .i64 r.cols, .int .i64 r.row, .int .i64 r.col, .slice A_1 r.cells.length c_2, .bool r.inRow, .slice A_4 r.spots.length c_5] 63 (0, 0))], s_3, s_6] ∧ DOwn d_impl_seen 74 J A_1 c_2 r.cells s_3 ∧ Own k_impl_Spot 31 J A_4 c_5 r.spots s_6) := by
 have hle := ImmLe.refl I0
 unfold impl_layout_point at H
 refine fn_intro (fn := Try.f47) 104 Try.func47 rfl rfl rfl (fun E Fs => ?_)
 refine at_seq (at_seq (at_reg0 [] [0, 1, 2, 11] [(0, .pointer (some ⟨g7191, 0, none⟩)), (1, iV p7201), (2, iV p7202), (11, .bool (p7201 == 10))] ?_))
 refine at_thn ?_
 by_cases h7203 : p7201 = 10
 ·
  rw [if_pos h7203] at H
  refine at_cond_t rfl (beq_iff_eq.2 h7203) ?_
  refine at_seq (at_ops [0, 1] rfl ?_)
  refine at_seg0 [0] [1] [] [12] [(12, .pointer (some ⟨g7191, 0, none⟩))] ?_
  refine at_eff rfl rfl ?_
  obtain ⟨b7, H7204, H⟩ := bind_some H
  refine eff_call rfl rfl ok64 rfl rfl (show Meets Try.prog 64 ([.pointer (some ⟨g7191, 0, none⟩)] : List Value).toArray _ [[(g7191, .cells #[iV p7192.cols, iV p7192.row, iV p7192.col, .slice A7193 p7192.cells.length c7194, .bool p7192.inRow, .slice A7197 p7192.spots.length c7198] 63 (0, 0))], s7195, s7199] _ from impl_layout_next.calls H7204 ho7196 ho7200) (Mr := (Fs)) (List.Perm.refl _) (fun v7205 J7206 M7207 hq7208 hJ7209 => ?_)
  replace hle := hle.trans hJ7209
  replace ho7196 := ho7196.mono hJ7209
  replace ho7200 := ho7200.mono hJ7209
  obtain ⟨A7210, c7211, s7212, A7214, c7215, s7216, rfl, rfl, ho7213, ho7217⟩ := hq7208
  refine at_end (at_thn (at_ret (at_then_ret ?_)))
  obtain rfl := Option.some.inj H
  exact at_done0 [] (.inl rfl) [] fun w hs => ⟨_, _, [[(g7191, .cells #[iV b7.cols, iV b7.row, iV b7.col, .slice A7210 b7.cells.length c7211, .bool b7.inRow, .slice A7214 b7.spots.length c7215] 63 (0, 0))], s7212, s7216], rfl, ⟨A7210, c7211, s7212, A7214, c7215, s7216, rfl, rfl, ho7213, ho7217⟩, hle, hs⟩
 ·
  rw [if_neg h7203] at H
  refine at_cond_f rfl (beq_eq_false_iff_ne.2 h7203) ?_
  refine at_skip (at_thn (at_seq (at_ops [0, 1, 2, 3] rfl ?_)))
  refine at_seg0 [0] [1, 2, 3] [] [0, 2, 14] [(0, .pointer (some ⟨g7191, 0, none⟩)), (2, iV p7202), (14, iV p7201)] ?_
  refine at_eff rfl rfl ?_
  obtain ⟨b8, H7218, H⟩ := bind_some H
  have hm_ := impl_shown.calls (I0 := I0) H7218
  refine eff_call rfl rfl ok65 rfl rfl (show Meets Try.prog 65 ([iV p7201] : List Value).toArray _ [] _ from hm_) (Mr := ([(g7191, .cells #[iV p7192.cols, iV p7192.row, iV p7192.col, .slice A7193 p7192.cells.length c7194, .bool p7192.inRow, .slice A7197 p7192.spots.length c7198] 63 (0, 0))] :: s7195 :: s7199 :: Fs)) (List.Perm.refl _) (fun v7219 J7220 M7221 hq7222 hJ7223 => ?_)
  replace hle := hle.trans hJ7223
  replace ho7196 := ho7196.mono hJ7223
  replace ho7200 := ho7200.mono hJ7223
  obtain ⟨A7224, c7225, s7226, rfl, rfl, ho7227⟩ := hq7222
  refine at_seg0 [2, 3] [] [] [0, 2, 15, 16, 17] [(0, .pointer (some ⟨g7191, 0, none⟩)), (2, iV p7202), (15, .slice A7224 b8.length c7225), (16, iV (b8.length : Int)), (17, iV 0)] ?_
  refine at_end (at_thn (at_block (at_perm ((perm_at (k := 1) rfl).trans ((List.Perm.refl _).cons _)) ?_)))
  refine at_keep [0, 2, 15, 16, 17] (L2 := [(0, .pointer (some ⟨g7191, 0, none⟩)), (2, iV p7202), (15, .slice A7224 b8.length c7225), (16, iV (b8.length : Int)), (17, iV 0)]) rfl ?_
  refine at_loop (fun k7243 L I Ms => ∃ (x7228 : Int) (x7229 : Int) (x7230 : Int) (x7231 : Int) (x7232 : List T_impl_seen) (A7233 : Option Addr) (c7234 : Nat) (s7235 : Seg) (x7237 : Bool) (x7238 : List T_impl_Spot) (A7239 : Option Addr) (c7240 : Nat) (s7241 : Seg), L = [(0, .pointer (some ⟨g7191, 0, none⟩)), (2, iV p7202), (15, .slice A7224 b8.length c7225), (16, iV (b8.length : Int)), (17, iV x7228)] ∧ Ms = ([(g7191, .cells #[iV x7229, iV x7230, iV x7231, .slice A7233 x7232.length c7234, .bool x7237, .slice A7239 x7238.length c7240] 63 (0, 0))] :: s7226 :: s7235 :: s7241 :: Fs) ∧ impl_layout_point_l0 k7243 x7228 x7229 x7230 x7231 x7232 x7237 x7238 b8 p7202 = some r ∧ ImmLe I0 I ∧ k7243 ≤ k ∧ Own (Kd.int .i64) 2 I A7224 c7225 b8 s7226 ∧ DOwn d_impl_seen 74 I A7233 c7234 x7232 s7235 ∧ Own k_impl_Spot 31 I A7239 c7240 x7238 s7241) ?_ ?_ k ⟨0, p7192.cols, p7192.row, p7192.col, p7192.cells, A7193, c7194, s7195, p7192.inRow, p7192.spots, A7197, c7198, s7199, rfl, rfl, H, hle, Nat.le_refl _, ho7227, ho7196, ho7200⟩
  · rintro L I Ms ⟨_, _, _, _, _, _, _, _, _, _, _, _, _, rfl, rfl, H, _⟩; exact no_none H
  ·
   clear H hle ho7196 ho7200 ho7227
   intro k7243 ih7244 L I Ms h_; obtain ⟨x7228, x7229, x7230, x7231, x7232, A7233, c7234, s7235, x7237, x7238, A7239, c7240, s7241, hL_, hM_, H, hle, hk7245, ho7227, ho7236, ho7242⟩ := h_; rw [hL_, hM_]; clear hL_ hM_ L Ms
   rw [impl_layout_point_l0] at H
   refine at_seq (at_reg0 [] [0, 2, 15, 16, 17, 18] [(0, .pointer (some ⟨g7191, 0, none⟩)), (2, iV p7202), (15, .slice A7224 b8.length c7225), (16, iV (b8.length : Int)), (17, iV x7228), (18, .bool (decide (x7228 < (b8.length : Int))))] ?_)
   refine at_thn (at_seq ?_)
   by_cases h7246 : x7228 < (b8.length : Int)
   ·
    rw [if_pos h7246] at H
    refine at_cond_t rfl (decide_eq_true h7246) ?_
    refine at_skip (at_thn (at_seq (at_block (at_seq ?_))))
    obtain ⟨h7247, H⟩ := ite_some H
    refine at_reg1 [(1, iV (rdA 0 b8 x7228))] [0, 2, 7, 15, 16, 17] [(0, .pointer (some ⟨g7191, 0, none⟩)), (2, iV p7202), (7, iV (rdA 0 b8 x7228)), (15, .slice A7224 b8.length c7225), (16, iV (b8.length : Int)), (17, iV x7228)] [fun _ => A7224.isSome = true ∧ 0 ≤ x7228 ∧ x7228 < ((b8.length : Nat) : Int), fun w => w.cell? ((A7224.getD ad0).add (x7228.toNat * 1)) = some (iV (rdA 0 b8 x7228))] (fun w hs => ⟨⟨ho7227.ne x7228 h7247 h7246, h7247, h7246⟩, ho7227.one 0 x7228 h7247 h7246 hs (k := 1) rfl⟩) ?_
    refine at_thn (at_seq (at_ops [0, 1, 2] rfl ?_))
    refine at_seg0 [0] [1, 2] [] [0, 2, 7, 15, 16, 17, 21] [(0, .pointer (some ⟨g7191, 0, none⟩)), (2, iV p7202), (7, iV (rdA 0 b8 x7228)), (15, .slice A7224 b8.length c7225), (16, iV (b8.length : Int)), (17, iV x7228), (21, iV (rdA 0 b8 x7228))] ?_
    refine at_eff rfl rfl ?_
    obtain ⟨b9, H7248, H⟩ := bind_some H
    have hm_ := impl_WidthOf.calls (I0 := I) H7248
    refine eff_call rfl rfl ok55 rfl rfl (show Meets Try.prog 55 ([iV (rdA 0 b8 x7228)] : List Value).toArray _ [] _ from hm_) (Mr := ([(g7191, .cells #[iV x7229, iV x7230, iV x7231, .slice A7233 x7232.length c7234, .bool x7237, .slice A7239 x7238.length c7240] 63 (0, 0))] :: s7226 :: s7235 :: s7241 :: Fs)) (List.Perm.refl _) (fun v7249 J7250 M7251 hq7252 hJ7253 => ?_)
    replace hle := hle.trans hJ7253
    replace ho7227 := ho7227.mono hJ7253
    replace ho7236 := ho7236.mono hJ7253
    replace ho7242 := ho7242.mono hJ7253
    obtain ⟨rfl, rfl⟩ := hq7252
    refine at_seg0 [2] [] [] [0, 2, 7, 8, 15, 16, 17] [(0, .pointer (some ⟨g7191, 0, none⟩)), (2, iV p7202), (7, iV (rdA 0 b8 x7228)), (8, iV b9), (15, .slice A7224 b8.length c7225), (16, iV (b8.length : Int)), (17, iV x7228)] ?_
    refine at_end (at_thn (at_seq (at_seq (at_reg0 [] [0, 2, 7, 8, 15, 16, 17, 24] [(0, .pointer (some ⟨g7191, 0, none⟩)), (2, iV p7202), (7, iV (rdA 0 b8 x7228)), (8, iV b9), (15, .slice A7224 b8.length c7225), (16, iV (b8.length : Int)), (17, iV x7228), (24, .bool (b9 == 0))] ?_))))
    refine at_thn ?_
    by_cases h7254 : b9 = 0
    ·
     rw [if_pos h7254] at H
     refine at_cond_t rfl (beq_iff_eq.2 h7254) ?_
     refine at_seq (at_seq (at_reg1 [(3, .bool x7237)] [0, 2, 7, 15, 16, 17, 28] [(0, .pointer (some ⟨g7191, 0, none⟩)), (2, iV p7202), (7, iV (rdA 0 b8 x7228)), (15, .slice A7224 b8.length c7225), (16, iV (b8.length : Int)), (17, iV x7228), (28, .bool x7237)] [fun w => w.cell? ⟨g7191, 4, none⟩ = some (.bool x7237)] (fun w hs => hs.var (k := 0) rfl 4 rfl) ?_))
     refine at_thn ?_
     by_cases h7255 : x7237 = true
     ·
      rw [if_pos h7255] at H
      refine at_cond_t rfl (h7255) ?_
      refine at_seq ?_
      obtain ⟨h7256, H⟩ := ite_some H
      obtain ⟨h7257, H⟩ := ite_some H
      refine at_regd hmo [(3, .slice A7233 x7232.length c7234), (7, .slice A7233 x7232.length c7234)] [0, 2, 7, 9, 15, 16, 17] (by kernel_rfl) (L2 := [(0, .pointer (some ⟨g7191, 0, none⟩)), (2, iV p7202), (7, iV (rdA 0 b8 x7228)), (9, .pointer (some (((A7233.getD ad0).add ((IntKind.i64.wrap ((x7232.length : Int) - 1)).toNat * 4)).add 0))), (15, .slice A7224 b8.length c7225), (16, iV (b8.length : Int)), (17, iV x7228)]) (obs := [fun w => w.cell? ⟨g7191, 3, none⟩ = some (.slice A7233 x7232.length c7234), fun w => w.cell? ⟨g7191, 3, none⟩ = some (.slice A7233 x7232.length c7234), fun _ => A7233.isSome = true ∧ 0 ≤ (IntKind.i64.wrap ((x7232.length : Int) - 1)) ∧ (IntKind.i64.wrap ((x7232.length : Int) - 1)) < ((x7232.length : Nat) : Int)]) (by kernel_rfl) ?_ ?_
      · intro w hs; exact ⟨hs.var (k := 0) rfl 3 rfl, hs.var (k := 0) rfl 3 rfl, ⟨ho7236.ne (IntKind.i64.wrap ((x7232.length : Int) - 1)) h7256 h7257, h7256, h7257⟩⟩
      refine at_thn (at_seq ?_)
      obtain ⟨A7258, c7259, hd7260⟩ := ho7236.at z_impl_seen (IntKind.i64.wrap ((x7232.length : Int) - 1)) h7256 h7257
      have hc7261 := hd7260.cells
      have hi7262 : OwnIn (Kd.int .i64) 2 J7250 A7258 c7259 ((rdA z_impl_seen x7232 (IntKind.i64.wrap ((x7232.length : Int) - 1))).cell.Points) s7235 := hd7260.inn
      refine at_reg1 [(3, .slice A7258 ((rdA z_impl_seen x7232 (IntKind.i64.wrap ((x7232.length : Int) - 1))).cell.Points).length c7259)] [0, 2, 7, 9, 15, 16, 17, 46] [(0, .pointer (some ⟨g7191, 0, none⟩)), (2, iV p7202), (7, iV (rdA 0 b8 x7228)), (9, .pointer (some (((A7233.getD ad0).add ((IntKind.i64.wrap ((x7232.length : Int) - 1)).toNat * 4)).add 0))), (15, .slice A7224 b8.length c7225), (16, iV (b8.length : Int)), (17, iV x7228), (46, .bool (decide ((((rdA z_impl_seen x7232 (IntKind.i64.wrap ((x7232.length : Int) - 1))).cell.Points).length : Int) < 4)))] [fun w => w.cell? ((((A7233.getD ad0).add ((IntKind.i64.wrap ((x7232.length : Int) - 1)).toNat * 4)).add 0).add 0) = some (.slice A7258 ((rdA z_impl_seen x7232 (IntKind.i64.wrap ((x7232.length : Int) - 1))).cell.Points).length c7259)] (fun w hs => (by rw [add_add']; exact hc7261 0 _ rfl hs (k := 2) rfl)) ?_
      refine at_thn ?_
      by_cases h7263 : (((rdA z_impl_seen x7232 (IntKind.i64.wrap ((x7232.length : Int) - 1))).cell.Points).length : Int) < 4
      ·
       rw [if_pos h7263] at H
       refine at_cond_t rfl (decide_eq_true h7263) ?_
       refine at_ops [0, 1, 2, 3, 4, 5, 6, 7, 8, 9, 10] rfl ?_
       obtain ⟨A7264, c7265, hd7266⟩ := ho7236.at z_impl_seen (IntKind.i64.wrap ((x7232.length : Int) - 1)) h7256 h7257
       have hc7267 := hd7266.cells
       have hi7268 : OwnIn (Kd.int .i64) 2 J7250 A7264 c7265 ((rdA z_impl_seen x7232 (IntKind.i64.wrap ((x7232.length : Int) - 1))).cell.Points) s7235 := hd7266.inn
       refine at_seg1 [0, 1, 2, 3, 4, 5] [6, 7, 8, 9, 10] [(4, .slice A7264 ((rdA z_impl_seen x7232 (IntKind.i64.wrap ((x7232.length : Int) - 1))).cell.Points).length c7265)] [0, 2, 15, 16, 17, 47, 51, 52] [(0, .pointer (some ⟨g7191, 0, none⟩)), (2, iV p7202), (15, .slice A7224 b8.length c7225), (16, iV (b8.length : Int)), (17, iV x7228), (47, .pointer (some (((A7233.getD ad0).add ((IntKind.i64.wrap ((x7232.length : Int) - 1)).toNat * 4)).add 0))), (51, .slice A7264 ((rdA z_impl_seen x7232 (IntKind.i64.wrap ((x7232.length : Int) - 1))).cell.Points).length c7265), (52, iV (rdA 0 b8 x7228))] [fun w => w.cell? ((((A7233.getD ad0).add ((IntKind.i64.wrap ((x7232.length : Int) - 1)).toNat * 4)).add 0).add 0) = some (.slice A7264 ((rdA z_impl_seen x7232 (IntKind.i64.wrap ((x7232.length : Int) - 1))).cell.Points).length c7265)] (fun w hs => (by rw [add_add']; exact hc7267 0 _ rfl hs (k := 2) rfl)) ?_
       refine at_eff rfl rfl ?_
       refine eff_buildSlice (e := 2) (cells := #[iV (rdA 0 b8 x7228)]) ([rdA 0 b8 x7228] : List Int).length rfl rfl rfl (by kernel_rfl) (fun g7269 => ?_)
       have ho7270 := own_lit (K := (Kd.int .i64)) (e := 2) (I := J7250) (xs := ([rdA 0 b8 x7228] : List Int)) (css := [[iV (rdA 0 b8 x7228)]]) (cells := #[iV (rdA 0 b8 x7228)]) (b := g7269) ⟨rfl, trivial⟩ rfl
       refine at_eff rfl rfl ?_
       refine at_focus (D := d_impl_seen) 3 hd7266 rfl (fun s7271 s7273 ho7272 hh7274 => ?_)
       replace ho7272 : Own (Kd.int .i64) 2 J7250 A7264 c7265 ((rdA z_impl_seen x7232 (IntKind.i64.wrap ((x7232.length : Int) - 1))).cell.Points) s7271 := ho7272
       obtain ⟨h7275, H⟩ := ite_some H
       obtain ⟨i_, hi_, hz_, hs_, hb_⟩ := info2
       refine eff_append (K := (Kd.int .i64)) (xs := (rdA z_impl_seen x7232 (IntKind.i64.wrap ((x7232.length : Int) - 1))).cell.Points) (ys := ([rdA 0 b8 x7228] : List Int)) 0 rfl rfl rfl rfl rfl und23 und23 hi_ hz_ hs_ rfl rfl rfl ho7272 rfl (fun w hs => ho7270.rowAt (k := 1) hs rfl) (by rw [hb_]; omega) (by omega) (fun A7276 c7277 s7278 ho7279 => ?_)
       refine at_seg0 [8, 9] [10] [] [0, 2, 15, 16, 17, 54, 56] [(0, .pointer (some ⟨g7191, 0, none⟩)), (2, iV p7202), (15, .slice A7224 b8.length c7225), (16, iV (b8.length : Int)), (17, iV x7228), (54, .slice A7276 ((rdA z_impl_seen x7232 (IntKind.i64.wrap ((x7232.length : Int) - 1))).cell.Points ++ ([rdA 0 b8 x7228] : List Int)).length c7277), (56, .pointer (some ((((A7233.getD ad0).add ((IntKind.i64.wrap ((x7232.length : Int) - 1)).toNat * 4)).add 0).add 0)))] ?_
       refine at_eff rfl rfl ?_
       refine eff_storeHole (D := d_impl_seen) (u := (⟨(⟨((rdA z_impl_seen x7232 (IntKind.i64.wrap ((x7232.length : Int) - 1))).cell.Points ++ ([rdA 0 b8 x7228] : List Int)), (rdA z_impl_seen x7232 (IntKind.i64.wrap ((x7232.length : Int) - 1))).cell.Attr⟩ : T_impl_Cell), (rdA z_impl_seen x7232 (IntKind.i64.wrap ((x7232.length : Int) - 1))).row, (rdA z_impl_seen x7232 (IntKind.i64.wrap ((x7232.length : Int) - 1))).col⟩ : T_impl_seen)) 3 0 0 rfl rfl rfl rfl hh7274 rfl rfl (by rw [add_add'] <;> rfl) rfl (Nat.le_of_ble_eq_true (by kernel_rfl)) rfl rfl ho7279 (fun s7280 hd7281 => ?_)
       have he7282 : rdA z_impl_seen (x7232.set (IntKind.i64.wrap ((x7232.length : Int) - 1)).toNat (⟨(⟨((rdA z_impl_seen x7232 (IntKind.i64.wrap ((x7232.length : Int) - 1))).cell.Points ++ ([rdA 0 b8 x7228] : List Int)), (rdA z_impl_seen x7232 (IntKind.i64.wrap ((x7232.length : Int) - 1))).cell.Attr⟩ : T_impl_Cell), (rdA z_impl_seen x7232 (IntKind.i64.wrap ((x7232.length : Int) - 1))).row, (rdA z_impl_seen x7232 (IntKind.i64.wrap ((x7232.length : Int) - 1))).col⟩ : T_impl_seen)) (IntKind.i64.wrap ((x7232.length : Int) - 1)) = (⟨(⟨((rdA z_impl_seen x7232 (IntKind.i64.wrap ((x7232.length : Int) - 1))).cell.Points ++ ([rdA 0 b8 x7228] : List Int)), (rdA z_impl_seen x7232 (IntKind.i64.wrap ((x7232.length : Int) - 1))).cell.Attr⟩ : T_impl_Cell), (rdA z_impl_seen x7232 (IntKind.i64.wrap ((x7232.length : Int) - 1))).row, (rdA z_impl_seen x7232 (IntKind.i64.wrap ((x7232.length : Int) - 1))).col⟩ : T_impl_seen) := rdA_set _ _ h7256 h7257
       have hd7283 : DOwn d_impl_seen 74 J7250 A7233 c7234 (x7232.set (IntKind.i64.wrap ((x7232.length : Int) - 1)).toNat (⟨(⟨((rdA z_impl_seen x7232 (IntKind.i64.wrap ((x7232.length : Int) - 1))).cell.Points ++ ([rdA 0 b8 x7228] : List Int)), (rdA z_impl_seen x7232 (IntKind.i64.wrap ((x7232.length : Int) - 1))).cell.Attr⟩ : T_impl_Cell), (rdA z_impl_seen x7232 (IntKind.i64.wrap ((x7232.length : Int) - 1))).row, (rdA z_impl_seen x7232 (IntKind.i64.wrap ((x7232.length : Int) - 1))).col⟩ : T_impl_seen)) s7280 := hd7281.own
       have hi7284 : OwnIn (Kd.int .i64) 2 J7250 A7276 c7277 ((rdA z_impl_seen x7232 (IntKind.i64.wrap ((x7232.length : Int) - 1))).cell.Points ++ ([rdA 0 b8 x7228] : List Int)) s7280 := by have h_ := hd7281.inn; rw [he7282] at h_; exact h_
       refine at_keep [0, 2, 15, 16, 17, 56] (L2 := [(0, .pointer (some ⟨g7191, 0, none⟩)), (2, iV p7202), (15, .slice A7224 b8.length c7225), (16, iV (b8.length : Int)), (17, iV x7228), (56, .pointer (some ((((A7233.getD ad0).add ((IntKind.i64.wrap ((x7232.length : Int) - 1)).toNat * 4)).add 0).add 0)))]) rfl ?_
       refine at_eqM (M1 := ([(g7269, .cells #[iV (rdA 0 b8 x7228)] 2 (0, 0))] :: [(g7191, .cells #[iV x7229, iV x7230, iV x7231, .slice A7233 x7232.length c7234, .bool x7237, .slice A7239 x7238.length c7240] 63 (0, 0))] :: s7226 :: s7280 :: s7241 :: Fs)) (M2 := ([(g7269, .cells #[iV (rdA 0 b8 x7228)] 2 (0, 0))] :: [(g7191, .cells #[iV x7229, iV x7230, iV x7231, .slice A7233 (x7232.set (IntKind.i64.wrap ((x7232.length : Int) - 1)).toNat (⟨(⟨((rdA z_impl_seen x7232 (IntKind.i64.wrap ((x7232.length : Int) - 1))).cell.Points ++ ([rdA 0 b8 x7228] : List Int)), (rdA z_impl_seen x7232 (IntKind.i64.wrap ((x7232.length : Int) - 1))).cell.Attr⟩ : T_impl_Cell), (rdA z_impl_seen x7232 (IntKind.i64.wrap ((x7232.length : Int) - 1))).row, (rdA z_impl_seen x7232 (IntKind.i64.wrap ((x7232.length : Int) - 1))).col⟩ : T_impl_seen)).length c7234, .bool x7237, .slice A7239 x7238.length c7240] 63 (0, 0))] :: s7226 :: s7280 :: s7241 :: Fs)) rfl (by simp only [List.length_set]) ?_
       refine at_end (at_thn (at_exit (at_then_exit (at_in_hit (at_thn (at_reg0 [] [0, 2, 15, 16, 17] [(0, .pointer (some ⟨g7191, 0, none⟩)), (2, iV p7202), (15, .slice A7224 b8.length c7225), (16, iV (b8.length : Int)), (17, iV (IntKind.i64.wrap (x7228 + 1)))] ?_))))))
       refine at_thn (at_drop (k := 0) rfl rfl ?_)
       refine at_sg ([(g7191, .cells #[iV x7229, iV x7230, iV x7231, .slice A7233 (x7232.set (IntKind.i64.wrap ((x7232.length : Int) - 1)).toNat (⟨(⟨((rdA z_impl_seen x7232 (IntKind.i64.wrap ((x7232.length : Int) - 1))).cell.Points ++ ([rdA 0 b8 x7228] : List Int)), (rdA z_impl_seen x7232 (IntKind.i64.wrap ((x7232.length : Int) - 1))).cell.Attr⟩ : T_impl_Cell), (rdA z_impl_seen x7232 (IntKind.i64.wrap ((x7232.length : Int) - 1))).row, (rdA z_impl_seen x7232 (IntKind.i64.wrap ((x7232.length : Int) - 1))).col⟩ : T_impl_seen)).length c7234, .bool x7237, .slice A7239 x7238.length c7240] 63 (0, 0))] :: s7226 :: s7280 :: s7241 :: Fs) ?_
       refine at_keep [0, 2, 15, 16, 17] (L2 := [(0, .pointer (some ⟨g7191, 0, none⟩)), (2, iV p7202), (15, .slice A7224 b8.length c7225), (16, iV (b8.length : Int)), (17, iV (IntKind.i64.wrap (x7228 + 1)))]) rfl ?_
       exact ih7244 _ (by omega) _ _ _ ⟨IntKind.i64.wrap (x7228 + 1), x7229, x7230, x7231, x7232.set (IntKind.i64.wrap ((x7232.length : Int) - 1)).toNat (⟨(⟨((rdA z_impl_seen x7232 (IntKind.i64.wrap ((x7232.length : Int) - 1))).cell.Points ++ ([rdA 0 b8 x7228] : List Int)), (rdA z_impl_seen x7232 (IntKind.i64.wrap ((x7232.length : Int) - 1))).cell.Attr⟩ : T_impl_Cell), (rdA z_impl_seen x7232 (IntKind.i64.wrap ((x7232.length : Int) - 1))).row, (rdA z_impl_seen x7232 (IntKind.i64.wrap ((x7232.length : Int) - 1))).col⟩ : T_impl_seen), A7233, c7234, s7280, x7237, x7238, A7239, c7240, s7241, rfl, rfl, H, hle, by omega, ho7227, hd7283, ho7242⟩
      ·
       rw [if_neg h7263] at H
       refine at_cond_f rfl (decide_eq_false h7263) ?_
       refine at_skip (at_thn (at_exit (at_then_exit (at_in_hit (at_thn (at_reg0 [] [0, 2, 15, 16, 17] [(0, .pointer (some ⟨g7191, 0, none⟩)), (2, iV p7202), (15, .slice A7224 b8.length c7225), (16, iV (b8.length : Int)), (17, iV (IntKind.i64.wrap (x7228 + 1)))] ?_))))))
       refine at_thn (at_keep [0, 2, 15, 16, 17] (L2 := [(0, .pointer (some ⟨g7191, 0, none⟩)), (2, iV p7202), (15, .slice A7224 b8.length c7225), (16, iV (b8.length : Int)), (17, iV (IntKind.i64.wrap (x7228 + 1)))]) rfl ?_)
       exact ih7244 _ (by omega) _ _ _ ⟨IntKind.i64.wrap (x7228 + 1), x7229, x7230, x7231, x7232, A7233, c7234, s7235, x7237, x7238, A7239, c7240, s7241, rfl, rfl, H, hle, by omega, ho7227, ho7236, ho7242⟩
     ·
      rw [if_neg h7255] at H
      refine at_cond_f rfl (ff_of h7255) ?_
      refine at_skip (at_thn (at_exit (at_then_exit (at_in_hit (at_thn (at_reg0 [] [0, 2, 15, 16, 17] [(0, .pointer (some ⟨g7191, 0, none⟩)), (2, iV p7202), (15, .slice A7224 b8.length c7225), (16, iV (b8.length : Int)), (17, iV (IntKind.i64.wrap (x7228 + 1)))] ?_))))))
      refine at_thn (at_keep [0, 2, 15, 16, 17] (L2 := [(0, .pointer (some ⟨g7191, 0, none⟩)), (2, iV p7202), (15, .slice A7224 b8.length c7225), (16, iV (b8.length : Int)), (17, iV (IntKind.i64.wrap (x7228 + 1)))]) rfl ?_)
      exact ih7244 _ (by omega) _ _ _ ⟨IntKind.i64.wrap (x7228 + 1), x7229, x7230, x7231, x7232, A7233, c7234, s7235, x7237, x7238, A7239, c7240, s7241, rfl, rfl, H, hle, by omega, ho7227, ho7236, ho7242⟩
    ·
     rw [if_neg h7254] at H
     refine at_cond_f rfl (beq_eq_false_iff_ne.2 h7254) ?_
     refine at_skip (at_thn (at_seq (at_seq (at_regd hmo [(3, iV x7229), (7, iV x7231)] [0, 2, 7, 8, 15, 16, 17, 67] (by kernel_rfl) (L2 := [(0, .pointer (some ⟨g7191, 0, none⟩)), (2, iV p7202), (7, iV (rdA 0 b8 x7228)), (8, iV b9), (15, .slice A7224 b8.length c7225), (16, iV (b8.length : Int)), (17, iV x7228), (67, .bool (decide ((IntKind.i64.wrap (x7229 - x7231)) < b9)))]) (obs := [fun w => w.cell? ⟨g7191, 0, none⟩ = some (iV x7229), fun w => w.cell? ⟨g7191, 2, none⟩ = some (iV x7231)]) (by kernel_rfl) ?_ ?_))))
     · intro w hs; exact ⟨hs.var (k := 0) rfl 0 rfl, hs.var (k := 0) rfl 2 rfl⟩
     refine at_thn ?_
     by_cases h7285 : (IntKind.i64.wrap (x7229 - x7231)) < b9
     ·
      rw [if_pos h7285] at H
      refine at_cond_t rfl (decide_eq_true h7285) ?_
      refine at_ops [0, 1] rfl ?_
      refine at_seg0 [0] [1] [] [0, 2, 7, 8, 15, 16, 17, 68] [(0, .pointer (some ⟨g7191, 0, none⟩)), (2, iV p7202), (7, iV (rdA 0 b8 x7228)), (8, iV b9), (15, .slice A7224 b8.length c7225), (16, iV (b8.length : Int)), (17, iV x7228), (68, .pointer (some ⟨g7191, 0, none⟩))] ?_
      refine at_eff rfl rfl ?_
      obtain ⟨b10, H7286, H⟩ := bind_some H
      refine eff_call rfl rfl ok64 rfl rfl (show Meets Try.prog 64 ([.pointer (some ⟨g7191, 0, none⟩)] : List Value).toArray _ [[(g7191, .cells #[iV x7229, iV x7230, iV x7231, .slice A7233 x7232.length c7234, .bool x7237, .slice A7239 x7238.length c7240] 63 (0, 0))], s7235, s7241] _ from impl_layout_next.calls H7286 ho7236 ho7242) (Mr := (s7226 :: Fs)) (((perm_at (k := 1) rfl).trans (((perm_at (k := 1) rfl).trans ((List.Perm.refl _).cons _)).cons _)).cons _) (fun v7287 J7288 M7289 hq7290 hJ7291 => ?_)
      replace hle := hle.trans hJ7291
      replace ho7227 := ho7227.mono hJ7291
      replace ho7236 := ho7236.mono hJ7291
      replace ho7242 := ho7242.mono hJ7291
      obtain ⟨A7292, c7293, s7294, A7296, c7297, s7298, rfl, rfl, ho7295, ho7299⟩ := hq7290
      refine at_end (at_thn (at_seq (at_x hmo (fun w => w.cell? ⟨g7191, 3, none⟩ = some (.slice A7292 b10.cells.length c7293) ∧ w.cell? ⟨g7191, 1, none⟩ = some (iV b10.row) ∧ w.cell? ⟨g7191, 2, none⟩ = some (iV b10.col)) [19, 22] ?_)))
      refine at_xseg [0, 1, 2, 3, 4, 5, 7, 9, 10, 11, 12, 13, 14, 15, 16] 8 (#[true, true, true, true, true, true, false, true, false, true, true, true, true, true, true, true, true, false, false, false, false, false, false]) rfl (by kernel_rfl) [(4, .slice A7292 b10.cells.length c7293), (12, iV b10.row), (16, iV b10.col)] [0, 2, 8, 15, 16, 17, 70, 74, 75, 77, 82, 86] (L2 := [(0, .pointer (some ⟨g7191, 0, none⟩)), (2, iV p7202), (8, iV b9), (15, .slice A7224 b8.length c7225), (16, iV (b8.length : Int)), (17, iV x7228), (70, .pointer (some ⟨g7191, 0, none⟩)), (74, .slice A7292 b10.cells.length c7293), (75, iV (rdA 0 b8 x7228)), (77, iV p7202), (82, iV b10.row), (86, iV b10.col)]) (obs := [fun w => w.cell? ⟨g7191, 3, none⟩ = some (.slice A7292 b10.cells.length c7293), fun w => w.cell? ⟨g7191, 1, none⟩ = some (iV b10.row), fun w => w.cell? ⟨g7191, 2, none⟩ = some (iV b10.col)]) (by kernel_rfl) (by kernel_rfl) (by kernel_rfl) (.inr fun w hs => ⟨hs.var (k := 0) rfl 3 rfl, hs.var (k := 0) rfl 1 rfl, hs.var (k := 0) rfl 2 rfl⟩) (fun w hS => ⟨hS.1, hS.2.1, hS.2.2⟩) (fun w hs => ⟨hs.var (k := 0) rfl 3 rfl, hs.var (k := 0) rfl 1 rfl, hs.var (k := 0) rfl 2 rfl⟩) ?_
      refine at_x1 7 6 (#[true, true, true, true, true, true, true, true, false, true, true, true, true, true, true, true, true, false, false, false, false, false, false]) rfl (by kernel_rfl) (by kernel_rfl) rfl rfl ?_
      refine eff_buildSlice (e := 2) (cells := #[iV (rdA 0 b8 x7228)]) ([rdA 0 b8 x7228] : List Int).length rfl rfl rfl (by kernel_rfl) (fun g14300 => ?_)
      have ho14301 := own_lit (K := (Kd.int .i64)) (e := 2) (I := J7288) (xs := ([rdA 0 b8 x7228] : List Int)) (css := [[iV (rdA 0 b8 x7228)]]) (cells := #[iV (rdA 0 b8 x7228)]) (b := g14300) ⟨rfl, trivial⟩ rfl
      refine at_xS (fun w hs => ⟨hs.var (k := 1) rfl 3 rfl, hs.var (k := 1) rfl 1 rfl, hs.var (k := 1) rfl 2 rfl⟩) ?_
      refine at_xseg [8, 17] 5 (#[true, true, true, true, true, true, true, true, true, true, true, true, true, true, true, true, true, true, false, false, false, false, false]) rfl (by kernel_rfl) [] [0, 2, 8, 15, 16, 17, 70, 74, 87] (L2 := [(0, .pointer (some ⟨g7191, 0, none⟩)), (2, iV p7202), (8, iV b9), (15, .slice A7224 b8.length c7225), (16, iV (b8.length : Int)), (17, iV x7228), (70, .pointer (some ⟨g7191, 0, none⟩)), (74, .slice A7292 b10.cells.length c7293), (87, .agg #[.slice (some ⟨g14300, 0, none⟩ : Option Addr) ([rdA 0 b8 x7228] : List Int).length (([rdA 0 b8 x7228] : List Int).length), iV p7202, iV b10.row, iV b10.col])]) (obs := []) (by kernel_rfl) (by kernel_rfl) (by kernel_rfl) (.inr fun w hs => ⟨hs.var (k := 1) rfl 3 rfl, hs.var (k := 1) rfl 1 rfl, hs.var (k := 1) rfl 2 rfl⟩) (fun w hS => trivial) (fun w hs => trivial) ?_
      refine at_x1 4 18 (#[true, true, true, true, true, true, true, true, true, true, true, true, true, true, true, true, true, true, true, false, false, false, false]) rfl (by kernel_rfl) (by kernel_rfl) rfl rfl ?_
      refine eff_buildSlice (e := 74) (cells := #[.slice (some ⟨g14300, 0, none⟩ : Option Addr) ([rdA 0 b8 x7228] : List Int).length (([rdA 0 b8 x7228] : List Int).length), iV p7202, iV b10.row, iV b10.col]) ([(⟨(⟨([rdA 0 b8 x7228] : List Int), p7202⟩ : T_impl_Cell), b10.row, b10.col⟩ : T_impl_seen)] : List T_impl_seen).length rfl rfl rfl (by kernel_rfl) (fun g26300 => ?_)
      have hd26301 := own_lit (K := Kd.raw 4) (e := 74) (I := J7288) (xs := ([[.slice (some ⟨g14300, 0, none⟩ : Option Addr) ([rdA 0 b8 x7228] : List Int).length (([rdA 0 b8 x7228] : List Int).length), iV p7202, iV b10.row, iV b10.col]] : List (List Value))) (css := ([[.slice (some ⟨g14300, 0, none⟩ : Option Addr) ([rdA 0 b8 x7228] : List Int).length (([rdA 0 b8 x7228] : List Int).length), iV p7202, iV b10.row, iV b10.col]] : List (List Value))) (cells := #[.slice (some ⟨g14300, 0, none⟩ : Option Addr) ([rdA 0 b8 x7228] : List Int).length (([rdA 0 b8 x7228] : List Int).length), iV p7202, iV b10.row, iV b10.col]) (b := g26300) ⟨⟨rfl, rfl, rfl⟩, trivial⟩ rfl
      refine at_merge 1 0 rfl rfl rfl ?_
      replace hd26301 : DOwn d_impl_seen 74 J7288 (some ⟨g26300, 0, none⟩ : Option Addr) (([(⟨(⟨([rdA 0 b8 x7228] : List Int), p7202⟩ : T_impl_Cell), b10.row, b10.col⟩ : T_impl_seen)] : List T_impl_seen).length) ([(⟨(⟨([rdA 0 b8 x7228] : List Int), p7202⟩ : T_impl_Cell), b10.row, b10.col⟩ : T_impl_seen)] : List T_impl_seen) ([(g14300, .cells #[iV (rdA 0 b8 x7228)] 2 (0, 0))] ++ [(g26300, .cells #[.slice (some ⟨g14300, 0, none⟩ : Option Addr) ([rdA 0 b8 x7228] : List Int).length (([rdA 0 b8 x7228] : List Int).length), iV p7202, iV b10.row, iV b10.col] 74 (0, 0))]) := DOwn.lit (hs := [[.slice (some ⟨g14300, 0, none⟩ : Option Addr) ([rdA 0 b8 x7228] : List Int).length (([rdA 0 b8 x7228] : List Int).length), iV p7202, iV b10.row, iV b10.col]]) (sis := [[(g14300, .cells #[iV (rdA 0 b8 x7228)] 2 (0, 0))]]) hd26301 ⟨⟨_, _, rfl, ho14301⟩, trivial⟩ (perm_lit1 _ _)
      refine at_xS (fun w hs => ⟨hs.var (k := 1) rfl 3 rfl, hs.var (k := 1) rfl 1 rfl, hs.var (k := 1) rfl 2 rfl⟩) ?_
      refine at_x1 3 19 (#[true, true, true, true, true, true, true, true, true, true, true, true, true, true, true, true, true, true, true, true, false, false, false]) rfl (by kernel_rfl) (by kernel_rfl) rfl rfl ?_
      obtain ⟨h27300, H⟩ := ite_some H
      obtain ⟨i_, hi_, hz_, hs_, hb_⟩ := info74
      refine eff_appendD (D := d_impl_seen) (xs := b10.cells) (ys := ([(⟨(⟨([rdA 0 b8 x7228] : List Int), p7202⟩ : T_impl_Cell), b10.row, b10.col⟩ : T_impl_seen)] : List T_impl_seen)) 1 0 rfl rfl rfl rfl rfl und61 und61 hi_ hz_ hs_ rfl rfl rfl ho7295 hd26301 rfl rfl (by rw [hb_]; omega) (by omega) (fun A27301 c27302 s27303 hd27304 => ?_)
      refine at_xX (by kernel_rfl) ?_
      refine at_xseg [20, 21] 1 (#[true, true, true, true, true, true, true, true, true, true, true, true, true, true, true, true, true, true, true, true, true, true, false]) rfl (by kernel_rfl) [] [0, 2, 8, 15, 16, 17, 89, 91] (L2 := [(0, .pointer (some ⟨g7191, 0, none⟩)), (2, iV p7202), (8, iV b9), (15, .slice A7224 b8.length c7225), (16, iV (b8.length : Int)), (17, iV x7228), (89, .slice A27301 (b10.cells ++ ([(⟨(⟨([rdA 0 b8 x7228] : List Int), p7202⟩ : T_impl_Cell), b10.row, b10.col⟩ : T_impl_seen)] : List T_impl_seen)).length c27302), (91, .pointer (some ⟨g7191, 3, none⟩))]) (obs := []) (by kernel_rfl) (by kernel_rfl) (by kernel_rfl) (.inl (by kernel_rfl)) (fun w hS => trivial) (fun w hs => trivial) ?_
      refine at_x1 0 22 (#[true, true, true, true, true, true, true, true, true, true, true, true, true, true, true, true, true, true, true, true, true, true, true]) rfl (by kernel_rfl) (by kernel_rfl) rfl rfl ?_
      refine eff_store 0 rfl rfl rfl rfl rfl rfl (.inl (Nat.le_refl _)) rfl (Nat.le_of_ble_eq_true (by kernel_rfl)) rfl ?_
      refine at_sg ([(g7191, .cells #[iV b10.cols, iV b10.row, iV b10.col, .slice A27301 (b10.cells ++ ([(⟨(⟨([rdA 0 b8 x7228] : List Int), p7202⟩ : T_impl_Cell), b10.row, b10.col⟩ : T_impl_seen)] : List T_impl_seen)).length c27302, .bool b10.inRow, .slice A7296 b10.spots.length c7297] 63 (0, 0))] :: s27303 :: s7298 :: s7226 :: Fs) ?_
      refine at_xX (by kernel_rfl) ?_
      refine at_xend (by kernel_rfl) ?_
      refine at_thn (at_seq (at_ops [0, 1, 2, 3, 4, 5, 6, 7, 8] rfl ?_))
      refine at_seg1 [0, 1, 2, 3, 4, 5, 6, 7] [8] [(3, iV b10.col)] [0, 2, 15, 16, 17, 97, 99] [(0, .pointer (some ⟨g7191, 0, none⟩)), (2, iV p7202), (15, .slice A7224 b8.length c7225), (16, iV (b8.length : Int)), (17, iV x7228), (97, iV (IntKind.i64.wrap (b10.col + b9))), (99, .pointer (some ⟨g7191, 2, none⟩))] [fun w => w.cell? ⟨g7191, 2, none⟩ = some (iV b10.col)] (fun w hs => hs.var (k := 0) rfl 2 rfl) ?_
      refine at_eff rfl rfl ?_
      refine eff_store 0 rfl rfl rfl rfl rfl rfl (.inl (Nat.le_refl _)) rfl (Nat.le_of_ble_eq_true (by kernel_rfl)) rfl ?_
      refine at_sg ([(g7191, .cells #[iV b10.cols, iV b10.row, iV (IntKind.i64.wrap (b10.col + b9)), .slice A27301 (b10.cells ++ ([(⟨(⟨([rdA 0 b8 x7228] : List Int), p7202⟩ : T_impl_Cell), b10.row, b10.col⟩ : T_impl_seen)] : List T_impl_seen)).length c27302, .bool b10.inRow, .slice A7296 b10.spots.length c7297] 63 (0, 0))] :: s27303 :: s7298 :: s7226 :: Fs) ?_
      refine at_end (at_thn (at_ops [0, 1, 2, 3] rfl ?_))
      refine at_seg0 [0, 1, 2] [3] [] [0, 2, 15, 16, 17, 102] [(0, .pointer (some ⟨g7191, 0, none⟩)), (2, iV p7202), (15, .slice A7224 b8.length c7225), (16, iV (b8.length : Int)), (17, iV x7228), (102, .pointer (some ⟨g7191, 4, none⟩))] ?_
      refine at_eff rfl rfl ?_
      refine eff_store 0 rfl rfl rfl rfl rfl rfl (.inl (Nat.le_refl _)) rfl (Nat.le_of_ble_eq_true (by kernel_rfl)) rfl ?_
      refine at_sg ([(g7191, .cells #[iV b10.cols, iV b10.row, iV (IntKind.i64.wrap (b10.col + b9)), .slice A27301 (b10.cells ++ ([(⟨(⟨([rdA 0 b8 x7228] : List Int), p7202⟩ : T_impl_Cell), b10.row, b10.col⟩ : T_impl_seen)] : List T_impl_seen)).length c27302, .bool true, .slice A7296 b10.spots.length c7297] 63 (0, 0))] :: s27303 :: s7298 :: s7226 :: Fs) ?_
      refine at_end (at_in_norm (at_thn (at_reg0 [] [0, 2, 15, 16, 17] [(0, .pointer (some ⟨g7191, 0, none⟩)), (2, iV p7202), (15, .slice A7224 b8.length c7225), (16, iV (b8.length : Int)), (17, iV (IntKind.i64.wrap (x7228 + 1)))] ?_)))
      refine at_thn (at_perm (((perm_at (k := 2) rfl).trans ((List.Perm.refl _).cons _)).cons _) ?_)
      refine at_keep [0, 2, 15, 16, 17] (L2 := [(0, .pointer (some ⟨g7191, 0, none⟩)), (2, iV p7202), (15, .slice A7224 b8.length c7225), (16, iV (b8.length : Int)), (17, iV (IntKind.i64.wrap (x7228 + 1)))]) rfl ?_
      exact ih7244 _ (by omega) _ _ _ ⟨IntKind.i64.wrap (x7228 + 1), b10.cols, b10.row, IntKind.i64.wrap (b10.col + b9), (b10.cells ++ ([(⟨(⟨([rdA 0 b8 x7228] : List Int), p7202⟩ : T_impl_Cell), b10.row, b10.col⟩ : T_impl_seen)] : List T_impl_seen)), A27301, c27302, s27303, true, b10.spots, A7296, c7297, s7298, rfl, rfl, H, hle, by omega, ho7227, hd27304, ho7299⟩
     ·
      rw [if_neg h7285] at H
      refine at_cond_f rfl (decide_eq_false h7285) ?_
      refine at_skip (at_thn (at_seq (at_x hmo (fun w => w.cell? ⟨g7191, 3, none⟩ = some (.slice A7233 x7232.length c7234) ∧ w.cell? ⟨g7191, 1, none⟩ = some (iV x7230) ∧ w.cell? ⟨g7191, 2, none⟩ = some (iV x7231)) [19, 22] ?_)))
      refine at_xseg [0, 1, 2, 3, 4, 5, 7, 9, 10, 11, 12, 13, 14, 15, 16] 8 (#[true, true, true, true, true, true, false, true, false, true, true, true, true, true, true, true, true, false, false, false, false, false, false]) rfl (by kernel_rfl) [(4, .slice A7233 x7232.length c7234), (12, iV x7230), (16, iV x7231)] [0, 2, 8, 15, 16, 17, 70, 74, 75, 77, 82, 86] (L2 := [(0, .pointer (some ⟨g7191, 0, none⟩)), (2, iV p7202), (8, iV b9), (15, .slice A7224 b8.length c7225), (16, iV (b8.length : Int)), (17, iV x7228), (70, .pointer (some ⟨g7191, 0, none⟩)), (74, .slice A7233 x7232.length c7234), (75, iV (rdA 0 b8 x7228)), (77, iV p7202), (82, iV x7230), (86, iV x7231)]) (obs := [fun w => w.cell? ⟨g7191, 3, none⟩ = some (.slice A7233 x7232.length c7234), fun w => w.cell? ⟨g7191, 1, none⟩ = some (iV x7230), fun w => w.cell? ⟨g7191, 2, none⟩ = some (iV x7231)]) (by kernel_rfl) (by kernel_rfl) (by kernel_rfl) (.inr fun w hs => ⟨hs.var (k := 0) rfl 3 rfl, hs.var (k := 0) rfl 1 rfl, hs.var (k := 0) rfl 2 rfl⟩) (fun w hS => ⟨hS.1, hS.2.1, hS.2.2⟩) (fun w hs => ⟨hs.var (k := 0) rfl 3 rfl, hs.var (k := 0) rfl 1 rfl, hs.var (k := 0) rfl 2 rfl⟩) ?_
      refine at_x1 7 6 (#[true, true, true, true, true, true, true, true, false, true, true, true, true, true, true, true, true, false, false, false, false, false, false]) rfl (by kernel_rfl) (by kernel_rfl) rfl rfl ?_
      refine eff_buildSlice (e := 2) (cells := #[iV (rdA 0 b8 x7228)]) ([rdA 0 b8 x7228] : List Int).length rfl rfl rfl (by kernel_rfl) (fun g39300 => ?_)
      have ho39301 := own_lit (K := (Kd.int .i64)) (e := 2) (I := J7250) (xs := ([rdA 0 b8 x7228] : List Int)) (css := [[iV (rdA 0 b8 x7228)]]) (cells := #[iV (rdA 0 b8 x7228)]) (b := g39300) ⟨rfl, trivial⟩ rfl
      refine at_xS (fun w hs => ⟨hs.var (k := 1) rfl 3 rfl, hs.var (k := 1) rfl 1 rfl, hs.var (k := 1) rfl 2 rfl⟩) ?_
      refine at_xseg [8, 17] 5 (#[true, true, true, true, true, true, true, true, true, true, true, true, true, true, true, true, true, true, false, false, false, false, false]) rfl (by kernel_rfl) [] [0, 2, 8, 15, 16, 17, 70, 74, 87] (L2 := [(0, .pointer (some ⟨g7191, 0, none⟩)), (2, iV p7202), (8, iV b9), (15, .slice A7224 b8.length c7225), (16, iV (b8.length : Int)), (17, iV x7228), (70, .pointer (some ⟨g7191, 0, none⟩)), (74, .slice A7233 x7232.length c7234), (87, .agg #[.slice (some ⟨g39300, 0, none⟩ : Option Addr) ([rdA 0 b8 x7228] : List Int).length (([rdA 0 b8 x7228] : List Int).length), iV p7202, iV x7230, iV x7231])]) (obs := []) (by kernel_rfl) (by kernel_rfl) (by kernel_rfl) (.inr fun w hs => ⟨hs.var (k := 1) rfl 3 rfl, hs.var (k := 1) rfl 1 rfl, hs.var (k := 1) rfl 2 rfl⟩) (fun w hS => trivial) (fun w hs => trivial) ?_
      refine at_x1 4 18 (#[true, true, true, true, true, true, true, true, true, true, true, true, true, true, true, true, true, true, true, false, false, false, false]) rfl (by kernel_rfl) (by kernel_rfl) rfl rfl ?_
      refine eff_buildSlice (e := 74) (cells := #[.slice (some ⟨g39300, 0, none⟩ : Option Addr) ([rdA 0 b8 x7228] : List Int).length (([rdA 0 b8 x7228] : List Int).length), iV p7202, iV x7230, iV x7231]) ([(⟨(⟨([rdA 0 b8 x7228] : List Int), p7202⟩ : T_impl_Cell), x7230, x7231⟩ : T_impl_seen)] : List T_impl_seen).length rfl rfl rfl (by kernel_rfl) (fun g51300 => ?_)
      have hd51301 := own_lit (K := Kd.raw 4) (e := 74) (I := J7250) (xs := ([[.slice (some ⟨g39300, 0, none⟩ : Option Addr) ([rdA 0 b8 x7228] : List Int).length (([rdA 0 b8 x7228] : List Int).length), iV p7202, iV x7230, iV x7231]] : List (List Value))) (css := ([[.slice (some ⟨g39300, 0, none⟩ : Option Addr) ([rdA 0 b8 x7228] : List Int).length (([rdA 0 b8 x7228] : List Int).length), iV p7202, iV x7230, iV x7231]] : List (List Value))) (cells := #[.slice (some ⟨g39300, 0, none⟩ : Option Addr) ([rdA 0 b8 x7228] : List Int).length (([rdA 0 b8 x7228] : List Int).length), iV p7202, iV x7230, iV x7231]) (b := g51300) ⟨⟨rfl, rfl, rfl⟩, trivial⟩ rfl
      refine at_merge 1 0 rfl rfl rfl ?_
      replace hd51301 : DOwn d_impl_seen 74 J7250 (some ⟨g51300, 0, none⟩ : Option Addr) (([(⟨(⟨([rdA 0 b8 x7228] : List Int), p7202⟩ : T_impl_Cell), x7230, x7231⟩ : T_impl_seen)] : List T_impl_seen).length) ([(⟨(⟨([rdA 0 b8 x7228] : List Int), p7202⟩ : T_impl_Cell), x7230, x7231⟩ : T_impl_seen)] : List T_impl_seen) ([(g39300, .cells #[iV (rdA 0 b8 x7228)] 2 (0, 0))] ++ [(g51300, .cells #[.slice (some ⟨g39300, 0, none⟩ : Option Addr) ([rdA 0 b8 x7228] : List Int).length (([rdA 0 b8 x7228] : List Int).length), iV p7202, iV x7230, iV x7231] 74 (0, 0))]) := DOwn.lit (hs := [[.slice (some ⟨g39300, 0, none⟩ : Option Addr) ([rdA 0 b8 x7228] : List Int).length (([rdA 0 b8 x7228] : List Int).length), iV p7202, iV x7230, iV x7231]]) (sis := [[(g39300, .cells #[iV (rdA 0 b8 x7228)] 2 (0, 0))]]) hd51301 ⟨⟨_, _, rfl, ho39301⟩, trivial⟩ (perm_lit1 _ _)
      refine at_xS (fun w hs => ⟨hs.var (k := 1) rfl 3 rfl, hs.var (k := 1) rfl 1 rfl, hs.var (k := 1) rfl 2 rfl⟩) ?_
      refine at_x1 3 19 (#[true, true, true, true, true, true, true, true, true, true, true, true, true, true, true, true, true, true, true, true, false, false, false]) rfl (by kernel_rfl) (by kernel_rfl) rfl rfl ?_
      obtain ⟨h52300, H⟩ := ite_some H
      obtain ⟨i_, hi_, hz_, hs_, hb_⟩ := info74
      refine eff_appendD (D := d_impl_seen) (xs := x7232) (ys := ([(⟨(⟨([rdA 0 b8 x7228] : List Int), p7202⟩ : T_impl_Cell), x7230, x7231⟩ : T_impl_seen)] : List T_impl_seen)) 2 0 rfl rfl rfl rfl rfl und61 und61 hi_ hz_ hs_ rfl rfl rfl ho7236 hd51301 rfl rfl (by rw [hb_]; omega) (by omega) (fun A52301 c52302 s52303 hd52304 => ?_)
      refine at_xX (by kernel_rfl) ?_
      refine at_xseg [20, 21] 1 (#[true, true, true, true, true, true, true, true, true, true, true, true, true, true, true, true, true, true, true, true, true, true, false]) rfl (by kernel_rfl) [] [0, 2, 8, 15, 16, 17, 89, 91] (L2 := [(0, .pointer (some ⟨g7191, 0, none⟩)), (2, iV p7202), (8, iV b9), (15, .slice A7224 b8.length c7225), (16, iV (b8.length : Int)), (17, iV x7228), (89, .slice A52301 (x7232 ++ ([(⟨(⟨([rdA 0 b8 x7228] : List Int), p7202⟩ : T_impl_Cell), x7230, x7231⟩ : T_impl_seen)] : List T_impl_seen)).length c52302), (91, .pointer (some ⟨g7191, 3, none⟩))]) (obs := []) (by kernel_rfl) (by kernel_rfl) (by kernel_rfl) (.inl (by kernel_rfl)) (fun w hS => trivial) (fun w hs => trivial) ?_
      refine at_x1 0 22 (#[true, true, true, true, true, true, true, true, true, true, true, true, true, true, true, true, true, true, true, true, true, true, true]) rfl (by kernel_rfl) (by kernel_rfl) rfl rfl ?_
      refine eff_store 0 rfl rfl rfl rfl rfl rfl (.inl (Nat.le_refl _)) rfl (Nat.le_of_ble_eq_true (by kernel_rfl)) rfl ?_
      refine at_sg ([(g7191, .cells #[iV x7229, iV x7230, iV x7231, .slice A52301 (x7232 ++ ([(⟨(⟨([rdA 0 b8 x7228] : List Int), p7202⟩ : T_impl_Cell), x7230, x7231⟩ : T_impl_seen)] : List T_impl_seen)).length c52302, .bool x7237, .slice A7239 x7238.length c7240] 63 (0, 0))] :: s7226 :: s52303 :: s7241 :: Fs) ?_
      refine at_xX (by kernel_rfl) ?_
      refine at_xend (by kernel_rfl) ?_
      refine at_thn (at_seq (at_ops [0, 1, 2, 3, 4, 5, 6, 7, 8] rfl ?_))
      refine at_seg1 [0, 1, 2, 3, 4, 5, 6, 7] [8] [(3, iV x7231)] [0, 2, 15, 16, 17, 97, 99] [(0, .pointer (some ⟨g7191, 0, none⟩)), (2, iV p7202), (15, .slice A7224 b8.length c7225), (16, iV (b8.length : Int)), (17, iV x7228), (97, iV (IntKind.i64.wrap (x7231 + b9))), (99, .pointer (some ⟨g7191, 2, none⟩))] [fun w => w.cell? ⟨g7191, 2, none⟩ = some (iV x7231)] (fun w hs => hs.var (k := 0) rfl 2 rfl) ?_
      refine at_eff rfl rfl ?_
      refine eff_store 0 rfl rfl rfl rfl rfl rfl (.inl (Nat.le_refl _)) rfl (Nat.le_of_ble_eq_true (by kernel_rfl)) rfl ?_
      refine at_sg ([(g7191, .cells #[iV x7229, iV x7230, iV (IntKind.i64.wrap (x7231 + b9)), .slice A52301 (x7232 ++ ([(⟨(⟨([rdA 0 b8 x7228] : List Int), p7202⟩ : T_impl_Cell), x7230, x7231⟩ : T_impl_seen)] : List T_impl_seen)).length c52302, .bool x7237, .slice A7239 x7238.length c7240] 63 (0, 0))] :: s7226 :: s52303 :: s7241 :: Fs) ?_
      refine at_end (at_thn (at_ops [0, 1, 2, 3] rfl ?_))
      refine at_seg0 [0, 1, 2] [3] [] [0, 2, 15, 16, 17, 102] [(0, .pointer (some ⟨g7191, 0, none⟩)), (2, iV p7202), (15, .slice A7224 b8.length c7225), (16, iV (b8.length : Int)), (17, iV x7228), (102, .pointer (some ⟨g7191, 4, none⟩))] ?_
      refine at_eff rfl rfl ?_
      refine eff_store 0 rfl rfl rfl rfl rfl rfl (.inl (Nat.le_refl _)) rfl (Nat.le_of_ble_eq_true (by kernel_rfl)) rfl ?_
      refine at_sg ([(g7191, .cells #[iV x7229, iV x7230, iV (IntKind.i64.wrap (x7231 + b9)), .slice A52301 (x7232 ++ ([(⟨(⟨([rdA 0 b8 x7228] : List Int), p7202⟩ : T_impl_Cell), x7230, x7231⟩ : T_impl_seen)] : List T_impl_seen)).length c52302, .bool true, .slice A7239 x7238.length c7240] 63 (0, 0))] :: s7226 :: s52303 :: s7241 :: Fs) ?_
      refine at_end (at_in_norm (at_thn (at_reg0 [] [0, 2, 15, 16, 17] [(0, .pointer (some ⟨g7191, 0, none⟩)), (2, iV p7202), (15, .slice A7224 b8.length c7225), (16, iV (b8.length : Int)), (17, iV (IntKind.i64.wrap (x7228 + 1)))] ?_)))
      refine at_thn (at_keep [0, 2, 15, 16, 17] (L2 := [(0, .pointer (some ⟨g7191, 0, none⟩)), (2, iV p7202), (15, .slice A7224 b8.length c7225), (16, iV (b8.length : Int)), (17, iV (IntKind.i64.wrap (x7228 + 1)))]) rfl ?_)
      exact ih7244 _ (by omega) _ _ _ ⟨IntKind.i64.wrap (x7228 + 1), x7229, x7230, IntKind.i64.wrap (x7231 + b9), (x7232 ++ ([(⟨(⟨([rdA 0 b8 x7228] : List Int), p7202⟩ : T_impl_Cell), x7230, x7231⟩ : T_impl_seen)] : List T_impl_seen)), A52301, c52302, s52303, true, x7238, A7239, c7240, s7241, rfl, rfl, H, hle, by omega, ho7227, hd52304, ho7242⟩
   ·
    rw [if_neg h7246] at H
    refine at_cond_f rfl (decide_eq_false h7246) ?_
    refine at_exit (at_then_exit (at_then_exit (at_in_hit ?_)))
    obtain rfl := Option.some.inj H
    refine at_drop (k := 1) rfl rfl ?_
    exact at_done0 [] (.inr rfl) [] fun w hs => ⟨_, _, [[(g7191, .cells #[iV x7229, iV x7230, iV x7231, .slice A7233 x7232.length c7234, .bool x7237, .slice A7239 x7238.length c7240] 63 (0, 0))], s7235, s7241], rfl, ⟨A7233, c7234, s7235, A7239, c7240, s7241, rfl, rfl, ho7236, ho7242⟩, hle, hs⟩

/-! ### (*loop.example/g00146/impl.Buf).region: function 48 -/
def impl_Buf_region (p7242 : T_impl_Buf) : Option (Int × Int) := some (mn p7242.Mark p7242.Cursor, mx p7242.Mark p7242.Cursor)
set_option maxHeartbeats 4000000 in
set_option maxRecDepth 100000 in
theorem impl_Buf_region.calls {p7242 : T_impl_Buf} {r : Int × Int} {I0 : Imm} {g7241 : Nat} {A7243 : Option Addr} {c7244 : Nat} (H : impl_Buf_region p7242 = some r) (hr7245 : Rd (Kd.int .i64) I0 A7243 c7244 p7242.Points) :
    Meets Try.prog 48 ([.pointer (some ⟨g7241, 0, none⟩)] : List Value).toArray I0 [[(g7241, .cells #[.slice A7243 p7242.Points.length c7244, .int .i64 p7242.Cursor, .int .i64 p7242.Mark] 25 (0, 0))]] (fun v J M => v = .tuple #[.int .i64 r.1, .int .i64 r.2] ∧ M = [[(g7241, .cells #[.slice A7243 p7242.Points.length c7244, .int .i64 p7242.Cursor, .int .i64 p7242.Mark] 25 (0, 0))]]) := by
 have hle := ImmLe.refl I0
 unfold impl_Buf_region at H
 refine fn_intro (fn := Try.f48) 22 Try.func48 rfl rfl rfl (fun E Fs => ?_)
 refine at_seq (at_reg0 [] [0] [(0, .pointer (some ⟨g7241, 0, none⟩))] ?_)
 refine at_thn (at_seq (at_regd hmo [(3, iV p7242.Mark), (7, iV p7242.Cursor), (12, iV p7242.Mark), (16, iV p7242.Cursor)] [2, 3] (by kernel_rfl) (L2 := [(2, iV (mn p7242.Mark p7242.Cursor)), (3, iV (mx p7242.Mark p7242.Cursor))]) (obs := [fun w => w.cell? ⟨g7241, 2, none⟩ = some (iV p7242.Mark), fun w => w.cell? ⟨g7241, 1, none⟩ = some (iV p7242.Cursor), fun w => w.cell? ⟨g7241, 2, none⟩ = some (iV p7242.Mark), fun w => w.cell? ⟨g7241, 1, none⟩ = some (iV p7242.Cursor)]) (by kernel_rfl) ?_ ?_))
 · intro w hs; exact ⟨hs.var (k := 0) rfl 2 rfl, hs.var (k := 0) rfl 1 rfl, hs.var (k := 0) rfl 2 rfl, hs.var (k := 0) rfl 1 rfl⟩
 refine at_thn (at_ret ?_)
 obtain rfl := Option.some.inj H
 exact at_done0 [iV (mn p7242.Mark p7242.Cursor), iV (mx p7242.Mark p7242.Cursor)] (.inl rfl) [.tmp 2, .tmp 3] fun w hs => ⟨_, _, [[(g7241, .cells #[.slice A7243 p7242.Points.length c7244, iV p7242.Cursor, iV p7242.Mark] 25 (0, 0))]], rfl, ⟨rfl, rfl⟩, hle, hs⟩

/-! ### (*loop.example/g00146/impl.layout).spot: function 23 -/
def impl_layout_spot (p14250 : T_impl_layout) : Option T_impl_Spot := if p14250.col = p14250.cols then (some (⟨IntKind.i64.wrap (p14250.row + 1), 0⟩ : T_impl_Spot)) else (some (⟨p14250.row, p14250.col⟩ : T_impl_Spot))
set_option maxHeartbeats 4000000 in
set_option maxRecDepth 100000 in
theorem impl_layout_spot.calls {p14250 : T_impl_layout} {r : T_impl_Spot} {I0 : Imm} {g14249 : Nat} {A14251 : Option Addr} {c14252 : Nat} {s14253 : Seg} {A14255 : Option Addr} {c14256 : Nat} {s14257 : Seg} (H : impl_layout_spot p14250 = some r) (ho14254 : DOwn d_impl_seen 74 I0 A14251 c14252 p14250.cells s14253) (ho14258 : Own k_impl_Spot 31 I0 A14255 c14256 p14250.spots s14257) :
    Meets Try.prog 23 ([.pointer (some ⟨g14249, 0, none⟩)] : List Value).toArray I0 [[(g14249, .cells #[.int .i64 p14250.cols, .int .i64 p14250.row, .int .i64 p14250.col, .slice A14251 p14250.cells.length c14252, .bool p14250.inRow, .slice A14255 p14250.spots.length c14256] 63 (0, 0))], s14253, s14257] (fun v J M => v = .agg #[.int .i64 r.Line, .int .i64 r.Col] ∧ M = [[(g14249, .cells #[.int .i64 p14250.cols, .int .i64 p14250.row, .int .i64 p14250.col, .slice A14251 p14250.cells.length c14252, .bool p14250.inRow, .slice A14255 p14250.spots.length c14256] 63 (0, 0))], s14253, s14257]) := by
 have hle := ImmLe.refl I0
 unfold impl_layout_spot at H
 refine fn_intro (fn := Try.f23) 27 Try.func23 rfl rfl rfl (fun E Fs => ?_)
 refine at_seq (at_ops [0] rfl ?_)
 refine at_eff rfl rfl ?_
 obtain ⟨i_, hi_, hz_, _, _⟩ := info31
 refine eff_alloc rfl rfl hi_ hz_ #[iV 0, iV 0] rfl (fun g14259 => ?_)
 refine at_end (at_thn (at_seq (at_seq (at_regd hmo [(3, iV p14250.col), (7, iV p14250.cols)] [0, 2, 11] (by kernel_rfl) (L2 := [(0, .pointer (some ⟨g14249, 0, none⟩)), (2, .pointer (some ⟨g14259, 0, none⟩)), (11, .bool (p14250.col == p14250.cols))]) (obs := [fun w => w.cell? ⟨g14249, 2, none⟩ = some (iV p14250.col), fun w => w.cell? ⟨g14249, 0, none⟩ = some (iV p14250.cols)]) (by kernel_rfl) ?_ ?_))))
 · intro w hs; exact ⟨hs.var (k := 1) rfl 2 rfl, hs.var (k := 1) rfl 0 rfl⟩
 refine at_thn ?_
 by_cases h14260 : p14250.col = p14250.cols
 ·
  rw [if_pos h14260] at H
  refine at_cond_t rfl (beq_iff_eq.2 h14260) ?_
  refine at_seq (at_ops [0, 1, 2, 3, 4, 5, 6] rfl ?_)
  refine at_seg1 [0, 1, 2, 3, 4, 5] [6] [(3, iV p14250.row)] [2, 17] [(2, .pointer (some ⟨g14259, 0, none⟩)), (17, .agg #[iV (IntKind.i64.wrap (p14250.row + 1)), iV 0])] [fun w => w.cell? ⟨g14249, 1, none⟩ = some (iV p14250.row)] (fun w hs => hs.var (k := 1) rfl 1 rfl) ?_
  refine at_eff rfl rfl ?_
  refine eff_store 0 rfl rfl rfl rfl rfl rfl (.inl (Nat.le_refl _)) rfl (Nat.le_of_ble_eq_true (by kernel_rfl)) rfl ?_
  refine at_sg ([(g14259, .cells #[iV (IntKind.i64.wrap (p14250.row + 1)), iV 0] 31 (0, 0))] :: [(g14249, .cells #[iV p14250.cols, iV p14250.row, iV p14250.col, .slice A14251 p14250.cells.length c14252, .bool p14250.inRow, .slice A14255 p14250.spots.length c14256] 63 (0, 0))] :: s14253 :: s14257 :: Fs) ?_
  refine at_end (at_thn (at_ret (at_then_ret ?_)))
  obtain rfl := Option.some.inj H
  refine at_perm ((perm_at (k := 1) rfl).trans (((perm_at (k := 1) rfl).trans (((perm_at (k := 1) rfl).trans ((List.Perm.refl _).cons _)).cons _)).cons _)) ?_
  refine at_done (vs := [.agg #[iV (IntKind.i64.wrap (p14250.row + 1)), iV 0]]) (obs := [fun w => CellsAt w ⟨g14259, 0, none⟩ [iV (IntKind.i64.wrap (p14250.row + 1)), iV 0] 0]) (.inl rfl) [.cell 2 31] [(2, .agg #[iV (IntKind.i64.wrap (p14250.row + 1)), iV 0])] rfl (by kernel_rfl) (fun w hs => cellsV (k := 3) hs rfl _ 0 (Nat.le_of_ble_eq_true (by kernel_rfl)) rfl) (fun w hs => ⟨_, _, [[(g14249, .cells #[iV p14250.cols, iV p14250.row, iV p14250.col, .slice A14251 p14250.cells.length c14252, .bool p14250.inRow, .slice A14255 p14250.spots.length c14256] 63 (0, 0))], s14253, s14257], rfl, ⟨rfl, rfl⟩, hle, (hs.tail (perm_at (k := 3) rfl))⟩)
 ·
  rw [if_neg h14260] at H
  refine at_cond_f rfl (beq_eq_false_iff_ne.2 h14260) ?_
  refine at_skip (at_thn (at_seq (at_x hmo (fun w => w.cell? ⟨g14249, 1, none⟩ = some (iV p14250.row) ∧ w.cell? ⟨g14249, 2, none⟩ = some (iV p14250.col)) [9] ?_)))
  refine at_xseg [0, 1, 2, 3, 4, 5, 6, 7, 8] 1 (#[true, true, true, true, true, true, true, true, true, false]) rfl (by kernel_rfl) [(3, iV p14250.row), (7, iV p14250.col)] [2, 26] (L2 := [(2, .pointer (some ⟨g14259, 0, none⟩)), (26, .agg #[iV p14250.row, iV p14250.col])]) (obs := [fun w => w.cell? ⟨g14249, 1, none⟩ = some (iV p14250.row), fun w => w.cell? ⟨g14249, 2, none⟩ = some (iV p14250.col)]) (by kernel_rfl) (by kernel_rfl) (by kernel_rfl) (.inr fun w hs => ⟨hs.var (k := 1) rfl 1 rfl, hs.var (k := 1) rfl 2 rfl⟩) (fun w hS => ⟨hS.1, hS.2⟩) (fun w hs => ⟨hs.var (k := 1) rfl 1 rfl, hs.var (k := 1) rfl 2 rfl⟩) ?_
  refine at_x1 0 9 (#[true, true, true, true, true, true, true, true, true, true]) rfl (by kernel_rfl) (by kernel_rfl) rfl rfl ?_
  refine eff_store 0 rfl rfl rfl rfl rfl rfl (.inl (Nat.le_refl _)) rfl (Nat.le_of_ble_eq_true (by kernel_rfl)) rfl ?_
  refine at_sg ([(g14259, .cells #[iV p14250.row, iV p14250.col] 31 (0, 0))] :: [(g14249, .cells #[iV p14250.cols, iV p14250.row, iV p14250.col, .slice A14251 p14250.cells.length c14252, .bool p14250.inRow, .slice A14255 p14250.spots.length c14256] 63 (0, 0))] :: s14253 :: s14257 :: Fs) ?_
  refine at_xX (by kernel_rfl) ?_
  refine at_xend (by kernel_rfl) ?_
  refine at_thn (at_ret ?_)
  obtain rfl := Option.some.inj H
  refine at_perm ((perm_at (k := 1) rfl).trans (((perm_at (k := 1) rfl).trans (((perm_at (k := 1) rfl).trans ((List.Perm.refl _).cons _)).cons _)).cons _)) ?_
  refine at_done (vs := [.agg #[iV p14250.row, iV p14250.col]]) (obs := [fun w => CellsAt w ⟨g14259, 0, none⟩ [iV p14250.row, iV p14250.col] 0]) (.inl rfl) [.cell 2 31] [(2, .agg #[iV p14250.row, iV p14250.col])] rfl (by kernel_rfl) (fun w hs => cellsV (k := 3) hs rfl _ 0 (Nat.le_of_ble_eq_true (by kernel_rfl)) rfl) (fun w hs => ⟨_, _, [[(g14249, .cells #[iV p14250.cols, iV p14250.row, iV p14250.col, .slice A14251 p14250.cells.length c14252, .bool p14250.inRow, .slice A14255 p14250.spots.length c14256] 63 (0, 0))], s14253, s14257], rfl, ⟨rfl, rfl⟩, hle, (hs.tail (perm_at (k := 3) rfl))⟩)
end Go.Proofs.Ytnhnipdanpcbeaa
