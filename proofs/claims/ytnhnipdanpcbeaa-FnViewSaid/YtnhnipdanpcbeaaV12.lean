import Derived.Test.YtnhnipdanpcbeaaV11
namespace Go.Proofs.Ytnhnipdanpcbeaa
open Go Eng
set_option linter.unusedVariables false
set_option linter.unusedSimpArgs false
/-! ### loop.example/g00146/impl.lay: function 22 -/
mutual
def impl_lay_l1 : Nat → Int → Int → Int → Int → (List T_impl_seen) → Bool → (List T_impl_Spot) → (List Int) → T_impl_Buf → Bool → Option T_impl_layout
  | 0, _, _, _, _, _, _, _, _, _, _ => none
  | k + 1, x7191, x7192, x7193, x7194, x7195, x7200, x7201, p7177, p7181, p7185 => if x7191 < (p7177.length : Int) then (if 0 ≤ x7191 then ((impl_layout_point k (⟨x7192, x7193, x7194, x7195, x7200, x7201⟩ : T_impl_layout) (rdA 0 p7177 x7191) 0).bind fun b7 => (impl_lay_l1 k (IntKind.i64.wrap (x7191 + 1)) b7.cols b7.row b7.col b7.cells b7.inRow b7.spots p7177 p7181 p7185)) else none) else (impl_lay_j0 k x7192 x7193 x7194 x7195 x7200 x7201 p7181 p7185)
def impl_lay_j0 : Nat → Int → Int → Int → (List T_impl_seen) → Bool → (List T_impl_Spot) → T_impl_Buf → Bool → Option T_impl_layout
  | 0, _, _, _, _, _, _, _, _ => none
  | k + 1, x7327, x7328, x7329, x7330, x7335, x7336, p7181, p7185 => (impl_Buf_region p7181).bind fun b8 => (impl_lay_l0 k 0 x7327 x7328 x7329 x7330 x7335 x7336 b8 p7181 p7185)
def impl_lay_l0 : Nat → Int → Int → Int → Int → (List T_impl_seen) → Bool → (List T_impl_Spot) → (Int × Int) → T_impl_Buf → Bool → Option T_impl_layout
  | 0, _, _, _, _, _, _, _, _, _, _ => none
  | k + 1, x7349, x7350, x7351, x7352, x7353, x7358, x7359, b8, p7181, p7185 => if x7349 < (p7181.Points.length : Int) then (if 0 ≤ x7349 then ((impl_layout_spot (⟨x7350, x7351, x7352, x7353, x7358, x7359⟩ : T_impl_layout)).bind fun b9 => (if x7359.length + ([b9] : List T_impl_Spot).length ≤ 8796093022208 then (if p7185 = true then ((impl_within x7349 b8.1 (IntKind.i64.wrap (b8.2 - 1))).bind fun b10 => (if b10 = true then ((impl_layout_point k (⟨x7350, x7351, x7352, x7353, x7358, (x7359 ++ ([b9] : List T_impl_Spot))⟩ : T_impl_layout) (rdA 0 p7181.Points x7349) 1).bind fun b11 => (impl_lay_l0 k (IntKind.i64.wrap (x7349 + 1)) b11.cols b11.row b11.col b11.cells b11.inRow b11.spots b8 p7181 p7185)) else ((impl_layout_point k (⟨x7350, x7351, x7352, x7353, x7358, (x7359 ++ ([b9] : List T_impl_Spot))⟩ : T_impl_layout) (rdA 0 p7181.Points x7349) 0).bind fun b12 => (impl_lay_l0 k (IntKind.i64.wrap (x7349 + 1)) b12.cols b12.row b12.col b12.cells b12.inRow b12.spots b8 p7181 p7185)))) else ((impl_layout_point k (⟨x7350, x7351, x7352, x7353, x7358, (x7359 ++ ([b9] : List T_impl_Spot))⟩ : T_impl_layout) (rdA 0 p7181.Points x7349) 0).bind fun b13 => (impl_lay_l0 k (IntKind.i64.wrap (x7349 + 1)) b13.cols b13.row b13.col b13.cells b13.inRow b13.spots b8 p7181 p7185))) else none)) else none) else (impl_lay_j1 k x7350 x7351 x7352 x7353 x7358 x7359)
def impl_lay_j1 : Nat → Int → Int → Int → (List T_impl_seen) → Bool → (List T_impl_Spot) → Option T_impl_layout
  | 0, _, _, _, _, _, _ => none
  | k + 1, x21519, x21520, x21521, x21522, x21527, x21528 => (impl_layout_spot (⟨x21519, x21520, x21521, x21522, x21527, x21528⟩ : T_impl_layout)).bind fun b14 => (if x21528.length + ([b14] : List T_impl_Spot).length ≤ 8796093022208 then (some (⟨x21519, x21520, x21521, x21522, x21527, (x21528 ++ ([b14] : List T_impl_Spot))⟩ : T_impl_layout)) else none)
end
def impl_lay (k : Nat) (p7177 : List Int) (p7181 : T_impl_Buf) (p7185 : Bool) (p7186 : Int) : Option T_impl_layout := impl_lay_l1 k 0 p7186 0 0 ([] : List T_impl_seen) false ([] : List T_impl_Spot) p7177 p7181 p7185
set_option maxHeartbeats 4000000 in
set_option maxRecDepth 100000 in
theorem impl_lay.calls {k : Nat} {p7177 : List Int} {p7181 : T_impl_Buf} {p7185 : Bool} {p7186 : Int} {r : T_impl_layout} {I0 : Imm} {A7178 : Option Addr} {c7179 : Nat} {A7182 : Option Addr} {c7183 : Nat} (H : impl_lay k p7177 p7181 p7185 p7186 = some r) (hr7180 : Rd (Kd.int .i64) I0 A7178 c7179 p7177) (hr7184 : Rd (Kd.int .i64) I0 A7182 c7183 p7181.Points) :
    Meets Try.prog 22 ([.slice A7178 p7177.length c7179, .agg #[.slice A7182 p7181.Points.length c7183, .int .i64 p7181.Cursor, .int .i64 p7181.Mark], .bool p7185, .int .i64 p7186] : List Value).toArray I0 [] (fun v J M => ∃ (g_1 : Nat) (A_2 : Option Addr) (c_3 : Nat) (s_4 : Seg) (A_5 : Option Addr) (c_6 : Nat) (s_7 : Seg), v = .pointer (some ⟨g_1, 0, none⟩) ∧ M = [[(g_1, .cells #[.int .i64 r.cols, .int .i64 r.row, .int .i64 r.col, .slice A_2 r.cells.length c_3, .bool r.inRow, .slice A_5 r.spots.length c_6] 63 (0, 0))], s_4, s_7] ∧ DOwn d_impl_seen 74 J A_2 c_3 r.cells s_4 ∧ Own k_impl_Spot 31 J A_5 c_6 r.spots s_7) := by
 have hle := ImmLe.refl I0
 unfold impl_lay at H
 refine fn_intro (fn := Try.f22) 78 Try.func22 rfl rfl rfl (fun E Fs => ?_)
 refine at_seq (at_ops [0, 1] rfl ?_)
 refine at_eff rfl rfl ?_
 refine eff_box rfl rfl rfl #[.slice A7182 p7181.Points.length c7183, iV p7181.Cursor, iV p7181.Mark] rfl (fun g7187 => ?_)
 refine at_seg0 [1] [] [] [0, 2, 3, 5] [(0, .slice A7178 p7177.length c7179), (2, .bool p7185), (3, iV p7186), (5, .pointer (some ⟨g7187, 0, none⟩))] ?_
 refine at_end (at_thn (at_seq (at_ops [0, 1, 2, 3] rfl ?_)))
 refine at_seg0 [0, 1] [2, 3] [] [0, 2, 5, 18] [(0, .slice A7178 p7177.length c7179), (2, .bool p7185), (5, .pointer (some ⟨g7187, 0, none⟩)), (18, .agg #[iV p7186, iV 0, iV 0, .slice none ([] : List T_impl_seen).length 0, .bool false, .slice none ([] : List T_impl_Spot).length 0])] ?_
 refine at_eff rfl rfl ?_
 refine eff_box rfl rfl rfl #[iV p7186, iV 0, iV 0, .slice none ([] : List T_impl_seen).length 0, .bool false, .slice none ([] : List T_impl_Spot).length 0] rfl (fun g7188 => ?_)
 refine at_seg0 [3] [] [] [0, 2, 5, 9] [(0, .slice A7178 p7177.length c7179), (2, .bool p7185), (5, .pointer (some ⟨g7187, 0, none⟩)), (9, .pointer (some ⟨g7188, 0, none⟩))] ?_
 refine at_end (at_thn (at_join (fun L I Ms => ∃ (k7341 : Nat), ∃ (x7327 : Int) (x7328 : Int) (x7329 : Int) (x7330 : List T_impl_seen) (A7331 : Option Addr) (c7332 : Nat) (s7333 : Seg) (x7335 : Bool) (x7336 : List T_impl_Spot) (A7337 : Option Addr) (c7338 : Nat) (s7339 : Seg), L = [(2, .bool p7185), (5, .pointer (some ⟨g7187, 0, none⟩)), (9, .pointer (some ⟨g7188, 0, none⟩))] ∧ Ms = ([(g7187, .cells #[.slice A7182 p7181.Points.length c7183, iV p7181.Cursor, iV p7181.Mark] 25 (0, 0))] :: [(g7188, .cells #[iV x7327, iV x7328, iV x7329, .slice A7331 x7330.length c7332, .bool x7335, .slice A7337 x7336.length c7338] 63 (0, 0))] :: s7333 :: s7339 :: Fs) ∧ impl_lay_j0 k7341 x7327 x7328 x7329 x7330 x7335 x7336 p7181 p7185 = some r ∧ ImmLe I0 I ∧ k7341 ≤ k ∧ DOwn d_impl_seen 74 I A7331 c7332 x7330 s7333 ∧ Own k_impl_Spot 31 I A7337 c7338 x7336 s7339 ∧ Rd (Kd.int .i64) I A7182 c7183 p7181.Points) ?_ ?_))
 ·
  clear H hle hr7180 hr7184
  intro L I Ms h_; obtain ⟨k7341, x7327, x7328, x7329, x7330, A7331, c7332, s7333, x7335, x7336, A7337, c7338, s7339, hL_, hM_, H, hle, hk7342, ho7334, ho7340, hr7184⟩ := h_; rw [hL_, hM_]; clear hL_ hM_ L Ms
  rcases k7341 with _ | k7341
  · exact (no_none H).elim
  rw [impl_lay_j0] at H
  refine at_seq (at_ops [0, 1, 2, 3, 4, 5] rfl ?_)
  refine at_eff rfl rfl ?_
  obtain ⟨b8, H7343, H⟩ := bind_some H
  refine eff_call rfl rfl ok48 rfl rfl (show Meets Try.prog 48 ([.pointer (some ⟨g7187, 0, none⟩)] : List Value).toArray _ [[(g7187, .cells #[.slice A7182 p7181.Points.length c7183, iV p7181.Cursor, iV p7181.Mark] 25 (0, 0))]] _ from impl_Buf_region.calls H7343 hr7184) (Mr := ([(g7188, .cells #[iV x7327, iV x7328, iV x7329, .slice A7331 x7330.length c7332, .bool x7335, .slice A7337 x7336.length c7338] 63 (0, 0))] :: s7333 :: s7339 :: Fs)) (List.Perm.refl _) (fun v7344 J7345 M7346 hq7347 hJ7348 => ?_)
  replace hle := hle.trans hJ7348
  replace ho7334 := ho7334.mono hJ7348
  replace ho7340 := ho7340.mono hJ7348
  replace hr7184 := hr7184.mono hJ7348
  obtain ⟨rfl, rfl⟩ := hq7347
  refine at_seg0 [1, 2, 3, 4, 5] [] [] [2, 5, 9, 12, 13] [(2, .bool p7185), (5, .pointer (some ⟨g7187, 0, none⟩)), (9, .pointer (some ⟨g7188, 0, none⟩)), (12, iV b8.1), (13, iV b8.2)] ?_
  refine at_end (at_thn (at_join (fun L I Ms => ∃ (k21533 : Nat), ∃ (x21519 : Int) (x21520 : Int) (x21521 : Int) (x21522 : List T_impl_seen) (A21523 : Option Addr) (c21524 : Nat) (s21525 : Seg) (x21527 : Bool) (x21528 : List T_impl_Spot) (A21529 : Option Addr) (c21530 : Nat) (s21531 : Seg), L = [(9, .pointer (some ⟨g7188, 0, none⟩))] ∧ Ms = ([(g7188, .cells #[iV x21519, iV x21520, iV x21521, .slice A21523 x21522.length c21524, .bool x21527, .slice A21529 x21528.length c21530] 63 (0, 0))] :: s21525 :: s21531 :: Fs) ∧ impl_lay_j1 k21533 x21519 x21520 x21521 x21522 x21527 x21528 = some r ∧ ImmLe I0 I ∧ k21533 ≤ k7341 ∧ DOwn d_impl_seen 74 I A21523 c21524 x21522 s21525 ∧ Own k_impl_Spot 31 I A21529 c21530 x21528 s21531) ?_ ?_))
  ·
   clear H hle ho7334 ho7340 hr7184
   intro L I Ms h_; obtain ⟨k21533, x21519, x21520, x21521, x21522, A21523, c21524, s21525, x21527, x21528, A21529, c21530, s21531, hL_, hM_, H, hle, hk21534, ho21526, ho21532⟩ := h_; rw [hL_, hM_]; clear hL_ hM_ L Ms
   rcases k21533 with _ | k21533
   · exact (no_none H).elim
   rw [impl_lay_j1] at H
   refine at_seq (at_x hmo (fun w => w.cell? ⟨g7188, 5, none⟩ = some (.slice A21529 x21528.length c21530)) [8, 11] ?_)
   refine at_xseg [0, 1, 2, 3, 4, 5] 6 (#[true, true, true, true, true, true, false, false, false, false, false, false]) rfl (by kernel_rfl) [(4, .slice A21529 x21528.length c21530)] [9, 66, 70, 71] (L2 := [(9, .pointer (some ⟨g7188, 0, none⟩)), (66, .pointer (some ⟨g7188, 0, none⟩)), (70, .slice A21529 x21528.length c21530), (71, .pointer (some ⟨g7188, 0, none⟩))]) (obs := [fun w => w.cell? ⟨g7188, 5, none⟩ = some (.slice A21529 x21528.length c21530)]) (by kernel_rfl) (by kernel_rfl) (by kernel_rfl) (.inr fun w hs => hs.var (k := 0) rfl 5 rfl) (fun w hS => hS) (fun w hs => hs.var (k := 0) rfl 5 rfl) ?_
   refine at_x1 5 6 (#[true, true, true, true, true, true, true, false, false, false, false, false]) rfl (by kernel_rfl) (by kernel_rfl) rfl rfl ?_
   obtain ⟨b14, H28535, H⟩ := bind_some H
   refine eff_call rfl rfl ok23 rfl rfl (show Meets Try.prog 23 ([.pointer (some ⟨g7188, 0, none⟩)] : List Value).toArray _ [[(g7188, .cells #[iV x21519, iV x21520, iV x21521, .slice A21523 x21522.length c21524, .bool x21527, .slice A21529 x21528.length c21530] 63 (0, 0))], s21525, s21531] _ from impl_layout_spot.calls H28535 ho21526 ho21532) (Mr := (Fs)) (List.Perm.refl _) (fun v28536 J28537 M28538 hq28539 hJ28540 => ?_)
   replace hle := hle.trans hJ28540
   replace ho21526 := ho21526.mono hJ28540
   replace ho21532 := ho21532.mono hJ28540
   obtain ⟨rfl, rfl⟩ := hq28539
   refine at_xS (fun w hs => hs.var (k := 0) rfl 5 rfl) ?_
   refine at_x1 4 7 (#[true, true, true, true, true, true, true, true, false, false, false, false]) rfl (by kernel_rfl) (by kernel_rfl) rfl rfl ?_
   refine eff_buildSlice (e := 31) (cells := #[iV b14.Line, iV b14.Col]) ([b14] : List T_impl_Spot).length rfl rfl rfl (by kernel_rfl) (fun g29535 => ?_)
   have ho29536 := own_lit (K := k_impl_Spot) (e := 31) (I := J28537) (xs := ([b14] : List T_impl_Spot)) (css := [[iV b14.Line, iV b14.Col]]) (cells := #[iV b14.Line, iV b14.Col]) (b := g29535) ⟨rfl, trivial⟩ rfl
   refine at_xS (fun w hs => hs.var (k := 1) rfl 5 rfl) ?_
   refine at_x1 3 8 (#[true, true, true, true, true, true, true, true, true, false, false, false]) rfl (by kernel_rfl) (by kernel_rfl) rfl rfl ?_
   obtain ⟨h30535, H⟩ := ite_some H
   obtain ⟨i_, hi_, hz_, hs_, hb_⟩ := info31
   refine eff_append (K := k_impl_Spot) (xs := x21528) (ys := ([b14] : List T_impl_Spot)) 3 rfl rfl rfl rfl rfl und57 und57 hi_ hz_ hs_ rfl rfl rfl ho21532 rfl (fun w hs => ho29536.rowAt (k := 0) hs rfl) (by rw [hb_]; omega) (by omega) (fun A30536 c30537 s30538 ho30539 => ?_)
   refine at_xX (by kernel_rfl) ?_
   refine at_xseg [9, 10] 1 (#[true, true, true, true, true, true, true, true, true, true, true, false]) rfl (by kernel_rfl) [] [9, 74, 76] (L2 := [(9, .pointer (some ⟨g7188, 0, none⟩)), (74, .slice A30536 (x21528 ++ ([b14] : List T_impl_Spot)).length c30537), (76, .pointer (some ⟨g7188, 5, none⟩))]) (obs := []) (by kernel_rfl) (by kernel_rfl) (by kernel_rfl) (.inl (by kernel_rfl)) (fun w hS => trivial) (fun w hs => trivial) ?_
   refine at_x1 0 11 (#[true, true, true, true, true, true, true, true, true, true, true, true]) rfl (by kernel_rfl) (by kernel_rfl) rfl rfl ?_
   refine eff_store 1 rfl rfl rfl rfl rfl rfl (.inl (Nat.le_refl _)) rfl (Nat.le_of_ble_eq_true (by kernel_rfl)) rfl ?_
   refine at_sg ([(g29535, .cells #[iV b14.Line, iV b14.Col] 31 (0, 0))] :: [(g7188, .cells #[iV x21519, iV x21520, iV x21521, .slice A21523 x21522.length c21524, .bool x21527, .slice A30536 (x21528 ++ ([b14] : List T_impl_Spot)).length c30537] 63 (0, 0))] :: s21525 :: s30538 :: Fs) ?_
   refine at_xX (by kernel_rfl) ?_
   refine at_xend (by kernel_rfl) ?_
   refine at_thn (at_seq (at_reg0 [] [8] [(8, .pointer (some ⟨g7188, 0, none⟩))] ?_))
   refine at_thn (at_ret ?_)
   obtain rfl := Option.some.inj H
   refine at_drop (k := 0) rfl rfl ?_
   exact at_done0 [.pointer (some ⟨g7188, 0, none⟩)] (.inl rfl) [.tmp 8] fun w hs => ⟨_, _, [[(g7188, .cells #[iV x21519, iV x21520, iV x21521, .slice A21523 x21522.length c21524, .bool x21527, .slice A30536 (x21528 ++ ([b14] : List T_impl_Spot)).length c30537] 63 (0, 0))], s21525, s30538], rfl, ⟨g7188, A21523, c21524, s21525, A30536, c30537, s30538, rfl, rfl, ho21526, ho30539⟩, hle, hs⟩
  ·
   intro Jn7349
   refine at_seq (at_reg1 [(1, .slice A7182 p7181.Points.length c7183)] [2, 9, 12, 13, 35, 36, 37] [(2, .bool p7185), (9, .pointer (some ⟨g7188, 0, none⟩)), (12, iV b8.1), (13, iV b8.2), (35, .slice A7182 p7181.Points.length c7183), (36, iV (p7181.Points.length : Int)), (37, iV 0)] [fun w => w.cell? ⟨g7187, 0, none⟩ = some (.slice A7182 p7181.Points.length c7183)] (fun w hs => hs.var (k := 0) rfl 0 rfl) ?_)
   refine at_thn (at_block (at_drop (k := 0) rfl rfl ?_))
   refine at_sg ([(g7188, .cells #[iV x7327, iV x7328, iV x7329, .slice A7331 x7330.length c7332, .bool x7335, .slice A7337 x7336.length c7338] 63 (0, 0))] :: s7333 :: s7339 :: Fs) ?_
   refine at_keep [2, 9, 12, 13, 35, 36, 37] (L2 := [(2, .bool p7185), (9, .pointer (some ⟨g7188, 0, none⟩)), (12, iV b8.1), (13, iV b8.2), (35, .slice A7182 p7181.Points.length c7183), (36, iV (p7181.Points.length : Int)), (37, iV 0)]) rfl ?_
   refine at_loop (fun k7364 L I Ms => ∃ (x7349 : Int) (x7350 : Int) (x7351 : Int) (x7352 : Int) (x7353 : List T_impl_seen) (A7354 : Option Addr) (c7355 : Nat) (s7356 : Seg) (x7358 : Bool) (x7359 : List T_impl_Spot) (A7360 : Option Addr) (c7361 : Nat) (s7362 : Seg), L = [(2, .bool p7185), (9, .pointer (some ⟨g7188, 0, none⟩)), (12, iV b8.1), (13, iV b8.2), (35, .slice A7182 p7181.Points.length c7183), (36, iV (p7181.Points.length : Int)), (37, iV x7349)] ∧ Ms = ([(g7188, .cells #[iV x7350, iV x7351, iV x7352, .slice A7354 x7353.length c7355, .bool x7358, .slice A7360 x7359.length c7361] 63 (0, 0))] :: s7356 :: s7362 :: Fs) ∧ impl_lay_l0 k7364 x7349 x7350 x7351 x7352 x7353 x7358 x7359 b8 p7181 p7185 = some r ∧ ImmLe I0 I ∧ k7364 ≤ k7341 ∧ DOwn d_impl_seen 74 I A7354 c7355 x7353 s7356 ∧ Own k_impl_Spot 31 I A7360 c7361 x7359 s7362 ∧ Rd (Kd.int .i64) I A7182 c7183 p7181.Points) ?_ ?_ k7341 ⟨0, x7327, x7328, x7329, x7330, A7331, c7332, s7333, x7335, x7336, A7337, c7338, s7339, rfl, rfl, H, hle, Nat.le_refl _, ho7334, ho7340, hr7184⟩
   · rintro L I Ms ⟨_, _, _, _, _, _, _, _, _, _, _, _, _, rfl, rfl, H, _⟩; exact no_none H
   ·
    clear H hle ho7334 ho7340 hr7184
    intro k7364 ih7365 L I Ms h_; obtain ⟨x7349, x7350, x7351, x7352, x7353, A7354, c7355, s7356, x7358, x7359, A7360, c7361, s7362, hL_, hM_, H, hle, hk7366, ho7357, ho7363, hr7184⟩ := h_; rw [hL_, hM_]; clear hL_ hM_ L Ms
    rw [impl_lay_l0] at H
    refine at_seq (at_reg0 [] [2, 9, 12, 13, 35, 36, 37, 38] [(2, .bool p7185), (9, .pointer (some ⟨g7188, 0, none⟩)), (12, iV b8.1), (13, iV b8.2), (35, .slice A7182 p7181.Points.length c7183), (36, iV (p7181.Points.length : Int)), (37, iV x7349), (38, .bool (decide (x7349 < (p7181.Points.length : Int))))] ?_)
    refine at_thn (at_seq ?_)
    by_cases h7367 : x7349 < (p7181.Points.length : Int)
    ·
     rw [if_pos h7367] at H
     refine at_cond_t rfl (decide_eq_true h7367) ?_
     refine at_skip (at_thn (at_seq (at_block (at_seq ?_))))
     obtain ⟨h7368, H⟩ := ite_some H
     refine at_reg1 [(2, iV (rdA 0 p7181.Points x7349))] [2, 9, 12, 13, 14, 15, 35, 36, 37] [(2, .bool p7185), (9, .pointer (some ⟨g7188, 0, none⟩)), (12, iV b8.1), (13, iV b8.2), (14, iV x7349), (15, iV (rdA 0 p7181.Points x7349)), (35, .slice A7182 p7181.Points.length c7183), (36, iV (p7181.Points.length : Int)), (37, iV x7349)] [fun _ => A7182.isSome = true ∧ 0 ≤ x7349 ∧ x7349 < ((p7181.Points.length : Nat) : Int), fun w => w.cell? ((A7182.getD ad0).add (x7349.toNat * 1)) = some (iV (rdA 0 p7181.Points x7349))] (fun w hs => ⟨⟨hr7184.ne x7349 h7368 h7367, h7368, h7367⟩, hr7184.one 0 x7349 h7368 h7367 hs⟩) ?_
     refine at_thn (at_seq (at_x hmo (fun w => w.cell? ⟨g7188, 5, none⟩ = some (.slice A7360 x7359.length c7361)) [8, 11] ?_))
     refine at_xseg [0, 1, 2, 3, 4, 5] 6 (#[true, true, true, true, true, true, false, false, false, false, false, false]) rfl (by kernel_rfl) [(4, .slice A7360 x7359.length c7361)] [2, 9, 12, 13, 14, 15, 35, 36, 37, 42, 46, 47] (L2 := [(2, .bool p7185), (9, .pointer (some ⟨g7188, 0, none⟩)), (12, iV b8.1), (13, iV b8.2), (14, iV x7349), (15, iV (rdA 0 p7181.Points x7349)), (35, .slice A7182 p7181.Points.length c7183), (36, iV (p7181.Points.length : Int)), (37, iV x7349), (42, .pointer (some ⟨g7188, 0, none⟩)), (46, .slice A7360 x7359.length c7361), (47, .pointer (some ⟨g7188, 0, none⟩))]) (obs := [fun w => w.cell? ⟨g7188, 5, none⟩ = some (.slice A7360 x7359.length c7361)]) (by kernel_rfl) (by kernel_rfl) (by kernel_rfl) (.inr fun w hs => hs.var (k := 0) rfl 5 rfl) (fun w hS => hS) (fun w hs => hs.var (k := 0) rfl 5 rfl) ?_
     refine at_x1 5 6 (#[true, true, true, true, true, true, true, false, false, false, false, false]) rfl (by kernel_rfl) (by kernel_rfl) rfl rfl ?_
     obtain ⟨b9, H14369, H⟩ := bind_some H
     refine eff_call rfl rfl ok23 rfl rfl (show Meets Try.prog 23 ([.pointer (some ⟨g7188, 0, none⟩)] : List Value).toArray _ [[(g7188, .cells #[iV x7350, iV x7351, iV x7352, .slice A7354 x7353.length c7355, .bool x7358, .slice A7360 x7359.length c7361] 63 (0, 0))], s7356, s7362] _ from impl_layout_spot.calls H14369 ho7357 ho7363) (Mr := (Fs)) (List.Perm.refl _) (fun v14370 J14371 M14372 hq14373 hJ14374 => ?_)
     replace hle := hle.trans hJ14374
     replace ho7357 := ho7357.mono hJ14374
     replace ho7363 := ho7363.mono hJ14374
     replace hr7184 := hr7184.mono hJ14374
     obtain ⟨rfl, rfl⟩ := hq14373
     refine at_xS (fun w hs => hs.var (k := 0) rfl 5 rfl) ?_
     refine at_x1 4 7 (#[true, true, true, true, true, true, true, true, false, false, false, false]) rfl (by kernel_rfl) (by kernel_rfl) rfl rfl ?_
     refine eff_buildSlice (e := 31) (cells := #[iV b9.Line, iV b9.Col]) ([b9] : List T_impl_Spot).length rfl rfl rfl (by kernel_rfl) (fun g15369 => ?_)
     have ho15370 := own_lit (K := k_impl_Spot) (e := 31) (I := J14371) (xs := ([b9] : List T_impl_Spot)) (css := [[iV b9.Line, iV b9.Col]]) (cells := #[iV b9.Line, iV b9.Col]) (b := g15369) ⟨rfl, trivial⟩ rfl
     refine at_xS (fun w hs => hs.var (k := 1) rfl 5 rfl) ?_
     refine at_x1 3 8 (#[true, true, true, true, true, true, true, true, true, false, false, false]) rfl (by kernel_rfl) (by kernel_rfl) rfl rfl ?_
     obtain ⟨h16369, H⟩ := ite_some H
     obtain ⟨i_, hi_, hz_, hs_, hb_⟩ := info31
     refine eff_append (K := k_impl_Spot) (xs := x7359) (ys := ([b9] : List T_impl_Spot)) 3 rfl rfl rfl rfl rfl und57 und57 hi_ hz_ hs_ rfl rfl rfl ho7363 rfl (fun w hs => ho15370.rowAt (k := 0) hs rfl) (by rw [hb_]; omega) (by omega) (fun A16370 c16371 s16372 ho16373 => ?_)
     refine at_xX (by kernel_rfl) ?_
     refine at_xseg [9, 10] 1 (#[true, true, true, true, true, true, true, true, true, true, true, false]) rfl (by kernel_rfl) [] [2, 9, 12, 13, 14, 15, 35, 36, 37, 50, 52] (L2 := [(2, .bool p7185), (9, .pointer (some ⟨g7188, 0, none⟩)), (12, iV b8.1), (13, iV b8.2), (14, iV x7349), (15, iV (rdA 0 p7181.Points x7349)), (35, .slice A7182 p7181.Points.length c7183), (36, iV (p7181.Points.length : Int)), (37, iV x7349), (50, .slice A16370 (x7359 ++ ([b9] : List T_impl_Spot)).length c16371), (52, .pointer (some ⟨g7188, 5, none⟩))]) (obs := []) (by kernel_rfl) (by kernel_rfl) (by kernel_rfl) (.inl (by kernel_rfl)) (fun w hS => trivial) (fun w hs => trivial) ?_
     refine at_x1 0 11 (#[true, true, true, true, true, true, true, true, true, true, true, true]) rfl (by kernel_rfl) (by kernel_rfl) rfl rfl ?_
     refine eff_store 1 rfl rfl rfl rfl rfl rfl (.inl (Nat.le_refl _)) rfl (Nat.le_of_ble_eq_true (by kernel_rfl)) rfl ?_
     refine at_sg ([(g15369, .cells #[iV b9.Line, iV b9.Col] 31 (0, 0))] :: [(g7188, .cells #[iV x7350, iV x7351, iV x7352, .slice A7354 x7353.length c7355, .bool x7358, .slice A16370 (x7359 ++ ([b9] : List T_impl_Spot)).length c16371] 63 (0, 0))] :: s7356 :: s16372 :: Fs) ?_
     refine at_xX (by kernel_rfl) ?_
     refine at_xend (by kernel_rfl) ?_
     refine at_thn (at_seq (at_reg0 [] [2, 9, 12, 13, 14, 15, 16, 35, 36, 37] [(2, .bool p7185), (9, .pointer (some ⟨g7188, 0, none⟩)), (12, iV b8.1), (13, iV b8.2), (14, iV x7349), (15, iV (rdA 0 p7181.Points x7349)), (16, iV 0), (35, .slice A7182 p7181.Points.length c7183), (36, iV (p7181.Points.length : Int)), (37, iV x7349)] ?_))
     refine at_thn (at_seq (at_seq (at_ops [0, 1, 2, 3, 4, 5, 6, 7] rfl ?_)))
     by_cases h21369 : p7185 = true
     ·
      rw [if_pos h21369] at H
      refine at_seg1 [0, 1, 2, 3, 4, 5] [6, 7] [(1, .bool true)] [2, 9, 12, 13, 15, 16, 35, 36, 37, 54, 55, 56, 58] [(2, .bool p7185), (9, .pointer (some ⟨g7188, 0, none⟩)), (12, iV b8.1), (13, iV b8.2), (15, iV (rdA 0 p7181.Points x7349)), (16, iV 0), (35, .slice A7182 p7181.Points.length c7183), (36, iV (p7181.Points.length : Int)), (37, iV x7349), (54, .bool true), (55, iV x7349), (56, iV b8.1), (58, iV (IntKind.i64.wrap (b8.2 - 1)))] [fun _ => (.bool p7185 : Value) = .bool true] (fun w hs => congrArg Value.bool (h21369)) ?_
      refine at_eff rfl rfl ?_
      obtain ⟨b10, H21370, H⟩ := bind_some H
      have hm_ := impl_within.calls (I0 := J14371) H21370
      refine eff_call rfl rfl ok36 rfl rfl (show Meets Try.prog 36 ([iV x7349, iV b8.1, iV (IntKind.i64.wrap (b8.2 - 1))] : List Value).toArray _ [] _ from hm_) (Mr := ([(g15369, .cells #[iV b9.Line, iV b9.Col] 31 (0, 0))] :: [(g7188, .cells #[iV x7350, iV x7351, iV x7352, .slice A7354 x7353.length c7355, .bool x7358, .slice A16370 (x7359 ++ ([b9] : List T_impl_Spot)).length c16371] 63 (0, 0))] :: s7356 :: s16372 :: Fs)) (List.Perm.refl _) (fun v21371 J21372 M21373 hq21374 hJ21375 => ?_)
      replace hle := hle.trans hJ21375
      replace ho16373 := ho16373.mono hJ21375
      replace ho7357 := ho7357.mono hJ21375
      replace hr7184 := hr7184.mono hJ21375
      obtain ⟨rfl, rfl⟩ := hq21374
      refine at_seg0 [7] [] [] [2, 9, 12, 13, 15, 16, 35, 36, 37, 60] [(2, .bool p7185), (9, .pointer (some ⟨g7188, 0, none⟩)), (12, iV b8.1), (13, iV b8.2), (15, iV (rdA 0 p7181.Points x7349)), (16, iV 0), (35, .slice A7182 p7181.Points.length c7183), (36, iV (p7181.Points.length : Int)), (37, iV x7349), (60, .bool b10)] ?_
      refine at_end (at_thn ?_)
      by_cases h21376 : b10 = true
      ·
       rw [if_pos h21376] at H
       refine at_cond_t rfl (h21376) ?_
       refine at_reg0 [] [2, 9, 12, 13, 15, 16, 35, 36, 37] [(2, .bool p7185), (9, .pointer (some ⟨g7188, 0, none⟩)), (12, iV b8.1), (13, iV b8.2), (15, iV (rdA 0 p7181.Points x7349)), (16, iV 1), (35, .slice A7182 p7181.Points.length c7183), (36, iV (p7181.Points.length : Int)), (37, iV x7349)] ?_
       refine at_thn (at_ops [0, 1, 2, 3] rfl ?_)
       refine at_seg0 [0, 1, 2] [3] [] [2, 9, 12, 13, 35, 36, 37, 61, 62, 63] [(2, .bool p7185), (9, .pointer (some ⟨g7188, 0, none⟩)), (12, iV b8.1), (13, iV b8.2), (35, .slice A7182 p7181.Points.length c7183), (36, iV (p7181.Points.length : Int)), (37, iV x7349), (61, .pointer (some ⟨g7188, 0, none⟩)), (62, iV (rdA 0 p7181.Points x7349)), (63, iV 1)] ?_
       refine at_eff rfl rfl ?_
       obtain ⟨b11, H21377, H⟩ := bind_some H
       refine eff_call rfl rfl ok47 rfl rfl (show Meets Try.prog 47 ([.pointer (some ⟨g7188, 0, none⟩), iV (rdA 0 p7181.Points x7349), iV 1] : List Value).toArray _ [[(g7188, .cells #[iV x7350, iV x7351, iV x7352, .slice A7354 x7353.length c7355, .bool x7358, .slice A16370 (x7359 ++ ([b9] : List T_impl_Spot)).length c16371] 63 (0, 0))], s7356, s16372] _ from impl_layout_point.calls H21377 ho7357 ho16373) (Mr := ([(g15369, .cells #[iV b9.Line, iV b9.Col] 31 (0, 0))] :: Fs)) ((perm_at (k := 1) rfl).trans (((perm_at (k := 1) rfl).trans (((perm_at (k := 1) rfl).trans ((List.Perm.refl _).cons _)).cons _)).cons _)) (fun v21378 J21379 M21380 hq21381 hJ21382 => ?_)
       replace hle := hle.trans hJ21382
       replace ho16373 := ho16373.mono hJ21382
       replace ho7357 := ho7357.mono hJ21382
       replace hr7184 := hr7184.mono hJ21382
       obtain ⟨A21383, c21384, s21385, A21387, c21388, s21389, rfl, rfl, ho21386, ho21390⟩ := hq21381
       refine at_end (at_in_norm (at_thn (at_reg0 [] [2, 9, 12, 13, 35, 36, 37] [(2, .bool p7185), (9, .pointer (some ⟨g7188, 0, none⟩)), (12, iV b8.1), (13, iV b8.2), (35, .slice A7182 p7181.Points.length c7183), (36, iV (p7181.Points.length : Int)), (37, iV (IntKind.i64.wrap (x7349 + 1)))] ?_)))
       refine at_thn (at_drop (k := 3) rfl rfl ?_)
       refine at_sg ([(g7188, .cells #[iV b11.cols, iV b11.row, iV b11.col, .slice A21383 b11.cells.length c21384, .bool b11.inRow, .slice A21387 b11.spots.length c21388] 63 (0, 0))] :: s21385 :: s21389 :: Fs) ?_
       refine at_keep [2, 9, 12, 13, 35, 36, 37] (L2 := [(2, .bool p7185), (9, .pointer (some ⟨g7188, 0, none⟩)), (12, iV b8.1), (13, iV b8.2), (35, .slice A7182 p7181.Points.length c7183), (36, iV (p7181.Points.length : Int)), (37, iV (IntKind.i64.wrap (x7349 + 1)))]) rfl ?_
       exact ih7365 _ (by omega) _ _ _ ⟨IntKind.i64.wrap (x7349 + 1), b11.cols, b11.row, b11.col, b11.cells, A21383, c21384, s21385, b11.inRow, b11.spots, A21387, c21388, s21389, rfl, rfl, H, hle, by omega, ho21386, ho21390, hr7184⟩
      ·
       rw [if_neg h21376] at H
       refine at_cond_f rfl (ff_of h21376) ?_
       refine at_skip (at_thn (at_ops [0, 1, 2, 3] rfl ?_))
       refine at_seg0 [0, 1, 2] [3] [] [2, 9, 12, 13, 35, 36, 37, 61, 62, 63] [(2, .bool p7185), (9, .pointer (some ⟨g7188, 0, none⟩)), (12, iV b8.1), (13, iV b8.2), (35, .slice A7182 p7181.Points.length c7183), (36, iV (p7181.Points.length : Int)), (37, iV x7349), (61, .pointer (some ⟨g7188, 0, none⟩)), (62, iV (rdA 0 p7181.Points x7349)), (63, iV 0)] ?_
       refine at_eff rfl rfl ?_
       obtain ⟨b12, H21391, H⟩ := bind_some H
       refine eff_call rfl rfl ok47 rfl rfl (show Meets Try.prog 47 ([.pointer (some ⟨g7188, 0, none⟩), iV (rdA 0 p7181.Points x7349), iV 0] : List Value).toArray _ [[(g7188, .cells #[iV x7350, iV x7351, iV x7352, .slice A7354 x7353.length c7355, .bool x7358, .slice A16370 (x7359 ++ ([b9] : List T_impl_Spot)).length c16371] 63 (0, 0))], s7356, s16372] _ from impl_layout_point.calls H21391 ho7357 ho16373) (Mr := ([(g15369, .cells #[iV b9.Line, iV b9.Col] 31 (0, 0))] :: Fs)) ((perm_at (k := 1) rfl).trans (((perm_at (k := 1) rfl).trans (((perm_at (k := 1) rfl).trans ((List.Perm.refl _).cons _)).cons _)).cons _)) (fun v21392 J21393 M21394 hq21395 hJ21396 => ?_)
       replace hle := hle.trans hJ21396
       replace ho16373 := ho16373.mono hJ21396
       replace ho7357 := ho7357.mono hJ21396
       replace hr7184 := hr7184.mono hJ21396
       obtain ⟨A21397, c21398, s21399, A21401, c21402, s21403, rfl, rfl, ho21400, ho21404⟩ := hq21395
       refine at_end (at_in_norm (at_thn (at_reg0 [] [2, 9, 12, 13, 35, 36, 37] [(2, .bool p7185), (9, .pointer (some ⟨g7188, 0, none⟩)), (12, iV b8.1), (13, iV b8.2), (35, .slice A7182 p7181.Points.length c7183), (36, iV (p7181.Points.length : Int)), (37, iV (IntKind.i64.wrap (x7349 + 1)))] ?_)))
       refine at_thn (at_drop (k := 3) rfl rfl ?_)
       refine at_sg ([(g7188, .cells #[iV b12.cols, iV b12.row, iV b12.col, .slice A21397 b12.cells.length c21398, .bool b12.inRow, .slice A21401 b12.spots.length c21402] 63 (0, 0))] :: s21399 :: s21403 :: Fs) ?_
       refine at_keep [2, 9, 12, 13, 35, 36, 37] (L2 := [(2, .bool p7185), (9, .pointer (some ⟨g7188, 0, none⟩)), (12, iV b8.1), (13, iV b8.2), (35, .slice A7182 p7181.Points.length c7183), (36, iV (p7181.Points.length : Int)), (37, iV (IntKind.i64.wrap (x7349 + 1)))]) rfl ?_
       exact ih7365 _ (by omega) _ _ _ ⟨IntKind.i64.wrap (x7349 + 1), b12.cols, b12.row, b12.col, b12.cells, A21397, c21398, s21399, b12.inRow, b12.spots, A21401, c21402, s21403, rfl, rfl, H, hle, by omega, ho21400, ho21404, hr7184⟩
     ·
      rw [if_neg h21369] at H
      refine at_seg1 [0, 1, 2, 3, 4, 5] [6, 7] [(1, .bool false)] [2, 9, 12, 13, 15, 16, 35, 36, 37, 54, 55, 56, 58] [(2, .bool p7185), (9, .pointer (some ⟨g7188, 0, none⟩)), (12, iV b8.1), (13, iV b8.2), (15, iV (rdA 0 p7181.Points x7349)), (16, iV 0), (35, .slice A7182 p7181.Points.length c7183), (36, iV (p7181.Points.length : Int)), (37, iV x7349), (54, .bool false), (55, undef), (56, undef), (58, undef)] [fun _ => (.bool p7185 : Value) = .bool false] (fun w hs => congrArg Value.bool (ff_of h21369)) ?_
      refine at_seg0 [6, 7] [] [] [2, 9, 12, 13, 15, 16, 35, 36, 37, 60] [(2, .bool p7185), (9, .pointer (some ⟨g7188, 0, none⟩)), (12, iV b8.1), (13, iV b8.2), (15, iV (rdA 0 p7181.Points x7349)), (16, iV 0), (35, .slice A7182 p7181.Points.length c7183), (36, iV (p7181.Points.length : Int)), (37, iV x7349), (60, .bool false)] ?_
      refine at_end (at_thn (at_cond_f rfl (rfl) ?_))
      refine at_skip (at_thn (at_ops [0, 1, 2, 3] rfl ?_))
      refine at_seg0 [0, 1, 2] [3] [] [2, 9, 12, 13, 35, 36, 37, 61, 62, 63] [(2, .bool p7185), (9, .pointer (some ⟨g7188, 0, none⟩)), (12, iV b8.1), (13, iV b8.2), (35, .slice A7182 p7181.Points.length c7183), (36, iV (p7181.Points.length : Int)), (37, iV x7349), (61, .pointer (some ⟨g7188, 0, none⟩)), (62, iV (rdA 0 p7181.Points x7349)), (63, iV 0)] ?_
      refine at_eff rfl rfl ?_
      obtain ⟨b13, H21405, H⟩ := bind_some H
      refine eff_call rfl rfl ok47 rfl rfl (show Meets Try.prog 47 ([.pointer (some ⟨g7188, 0, none⟩), iV (rdA 0 p7181.Points x7349), iV 0] : List Value).toArray _ [[(g7188, .cells #[iV x7350, iV x7351, iV x7352, .slice A7354 x7353.length c7355, .bool x7358, .slice A16370 (x7359 ++ ([b9] : List T_impl_Spot)).length c16371] 63 (0, 0))], s7356, s16372] _ from impl_layout_point.calls H21405 ho7357 ho16373) (Mr := ([(g15369, .cells #[iV b9.Line, iV b9.Col] 31 (0, 0))] :: Fs)) ((perm_at (k := 1) rfl).trans (((perm_at (k := 1) rfl).trans (((perm_at (k := 1) rfl).trans ((List.Perm.refl _).cons _)).cons _)).cons _)) (fun v21406 J21407 M21408 hq21409 hJ21410 => ?_)
      replace hle := hle.trans hJ21410
      replace ho16373 := ho16373.mono hJ21410
      replace ho7357 := ho7357.mono hJ21410
      replace hr7184 := hr7184.mono hJ21410
      obtain ⟨A21411, c21412, s21413, A21415, c21416, s21417, rfl, rfl, ho21414, ho21418⟩ := hq21409
      refine at_end (at_in_norm (at_thn (at_reg0 [] [2, 9, 12, 13, 35, 36, 37] [(2, .bool p7185), (9, .pointer (some ⟨g7188, 0, none⟩)), (12, iV b8.1), (13, iV b8.2), (35, .slice A7182 p7181.Points.length c7183), (36, iV (p7181.Points.length : Int)), (37, iV (IntKind.i64.wrap (x7349 + 1)))] ?_)))
      refine at_thn (at_drop (k := 3) rfl rfl ?_)
      refine at_sg ([(g7188, .cells #[iV b13.cols, iV b13.row, iV b13.col, .slice A21411 b13.cells.length c21412, .bool b13.inRow, .slice A21415 b13.spots.length c21416] 63 (0, 0))] :: s21413 :: s21417 :: Fs) ?_
      refine at_keep [2, 9, 12, 13, 35, 36, 37] (L2 := [(2, .bool p7185), (9, .pointer (some ⟨g7188, 0, none⟩)), (12, iV b8.1), (13, iV b8.2), (35, .slice A7182 p7181.Points.length c7183), (36, iV (p7181.Points.length : Int)), (37, iV (IntKind.i64.wrap (x7349 + 1)))]) rfl ?_
      exact ih7365 _ (by omega) _ _ _ ⟨IntKind.i64.wrap (x7349 + 1), b13.cols, b13.row, b13.col, b13.cells, A21411, c21412, s21413, b13.inRow, b13.spots, A21415, c21416, s21417, rfl, rfl, H, hle, by omega, ho21414, ho21418, hr7184⟩
    ·
     rw [if_neg h7367] at H
     refine at_cond_f rfl (decide_eq_false h7367) ?_
     refine at_exit (at_then_exit (at_then_exit (at_in_hit (at_thn (at_keep [9] (L2 := [(9, .pointer (some ⟨g7188, 0, none⟩))]) rfl ?_)))))
     exact Jn7349 _ _ _ ⟨_, x7350, x7351, x7352, x7353, A7354, c7355, s7356, x7358, x7359, A7360, c7361, s7362, rfl, rfl, H, hle, by omega, ho7357, ho7363⟩
 ·
  intro Jn7189
  refine at_seq (at_reg0 [] [2, 5, 9, 20, 21, 22] [(2, .bool p7185), (5, .pointer (some ⟨g7187, 0, none⟩)), (9, .pointer (some ⟨g7188, 0, none⟩)), (20, .slice A7178 p7177.length c7179), (21, iV (p7177.length : Int)), (22, iV 0)] ?_)
  refine at_thn (at_block (at_nilseg ?_))
  have hd7189 := DOwn.nil d_impl_seen 74 I0
  refine at_nilseg ?_
  have ho7190 := Own.nil k_impl_Spot 31 I0
  refine at_perm ((perm_at (k := 3) rfl).trans (((perm_at (k := 2) rfl).trans (((perm_at (k := 1) rfl).trans ((List.Perm.refl _).cons _)).cons _)).cons _)) ?_
  refine at_keep [2, 5, 9, 20, 21, 22] (L2 := [(2, .bool p7185), (5, .pointer (some ⟨g7187, 0, none⟩)), (9, .pointer (some ⟨g7188, 0, none⟩)), (20, .slice A7178 p7177.length c7179), (21, iV (p7177.length : Int)), (22, iV 0)]) rfl ?_
  refine at_loop (fun k7206 L I Ms => ∃ (x7191 : Int) (x7192 : Int) (x7193 : Int) (x7194 : Int) (x7195 : List T_impl_seen) (A7196 : Option Addr) (c7197 : Nat) (s7198 : Seg) (x7200 : Bool) (x7201 : List T_impl_Spot) (A7202 : Option Addr) (c7203 : Nat) (s7204 : Seg), L = [(2, .bool p7185), (5, .pointer (some ⟨g7187, 0, none⟩)), (9, .pointer (some ⟨g7188, 0, none⟩)), (20, .slice A7178 p7177.length c7179), (21, iV (p7177.length : Int)), (22, iV x7191)] ∧ Ms = ([(g7187, .cells #[.slice A7182 p7181.Points.length c7183, iV p7181.Cursor, iV p7181.Mark] 25 (0, 0))] :: [(g7188, .cells #[iV x7192, iV x7193, iV x7194, .slice A7196 x7195.length c7197, .bool x7200, .slice A7202 x7201.length c7203] 63 (0, 0))] :: s7198 :: s7204 :: Fs) ∧ impl_lay_l1 k7206 x7191 x7192 x7193 x7194 x7195 x7200 x7201 p7177 p7181 p7185 = some r ∧ ImmLe I0 I ∧ k7206 ≤ k ∧ DOwn d_impl_seen 74 I A7196 c7197 x7195 s7198 ∧ Own k_impl_Spot 31 I A7202 c7203 x7201 s7204 ∧ Rd (Kd.int .i64) I A7178 c7179 p7177 ∧ Rd (Kd.int .i64) I A7182 c7183 p7181.Points) ?_ ?_ k ⟨0, p7186, 0, 0, ([] : List T_impl_seen), none, 0, [], false, ([] : List T_impl_Spot), none, 0, [], rfl, rfl, H, hle, Nat.le_refl _, hd7189, ho7190, hr7180, hr7184⟩
  · rintro L I Ms ⟨_, _, _, _, _, _, _, _, _, _, _, _, _, rfl, rfl, H, _⟩; exact no_none H
  ·
   clear H hle hd7189 ho7190 hr7180 hr7184
   intro k7206 ih7207 L I Ms h_; obtain ⟨x7191, x7192, x7193, x7194, x7195, A7196, c7197, s7198, x7200, x7201, A7202, c7203, s7204, hL_, hM_, H, hle, hk7208, ho7199, ho7205, hr7180, hr7184⟩ := h_; rw [hL_, hM_]; clear hL_ hM_ L Ms
   rw [impl_lay_l1] at H
   refine at_seq (at_reg0 [] [2, 5, 9, 20, 21, 22, 23] [(2, .bool p7185), (5, .pointer (some ⟨g7187, 0, none⟩)), (9, .pointer (some ⟨g7188, 0, none⟩)), (20, .slice A7178 p7177.length c7179), (21, iV (p7177.length : Int)), (22, iV x7191), (23, .bool (decide (x7191 < (p7177.length : Int))))] ?_)
   refine at_thn (at_seq ?_)
   by_cases h7209 : x7191 < (p7177.length : Int)
   ·
    rw [if_pos h7209] at H
    refine at_cond_t rfl (decide_eq_true h7209) ?_
    refine at_skip (at_thn (at_seq (at_block (at_seq ?_))))
    obtain ⟨h7210, H⟩ := ite_some H
    refine at_reg1 [(1, iV (rdA 0 p7177 x7191))] [2, 5, 9, 11, 20, 21, 22] [(2, .bool p7185), (5, .pointer (some ⟨g7187, 0, none⟩)), (9, .pointer (some ⟨g7188, 0, none⟩)), (11, iV (rdA 0 p7177 x7191)), (20, .slice A7178 p7177.length c7179), (21, iV (p7177.length : Int)), (22, iV x7191)] [fun _ => A7178.isSome = true ∧ 0 ≤ x7191 ∧ x7191 < ((p7177.length : Nat) : Int), fun w => w.cell? ((A7178.getD ad0).add (x7191.toNat * 1)) = some (iV (rdA 0 p7177 x7191))] (fun w hs => ⟨⟨hr7180.ne x7191 h7210 h7209, h7210, h7209⟩, hr7180.one 0 x7191 h7210 h7209 hs⟩) ?_
    refine at_thn (at_ops [0, 1, 2] rfl ?_)
    refine at_seg0 [0, 1] [2] [] [2, 5, 9, 20, 21, 22, 26, 27] [(2, .bool p7185), (5, .pointer (some ⟨g7187, 0, none⟩)), (9, .pointer (some ⟨g7188, 0, none⟩)), (20, .slice A7178 p7177.length c7179), (21, iV (p7177.length : Int)), (22, iV x7191), (26, .pointer (some ⟨g7188, 0, none⟩)), (27, iV (rdA 0 p7177 x7191))] ?_
    refine at_eff rfl rfl ?_
    obtain ⟨b7, H7211, H⟩ := bind_some H
    refine eff_call rfl rfl ok47 rfl rfl (show Meets Try.prog 47 ([.pointer (some ⟨g7188, 0, none⟩), iV (rdA 0 p7177 x7191), iV 0] : List Value).toArray _ [[(g7188, .cells #[iV x7192, iV x7193, iV x7194, .slice A7196 x7195.length c7197, .bool x7200, .slice A7202 x7201.length c7203] 63 (0, 0))], s7198, s7204] _ from impl_layout_point.calls H7211 ho7199 ho7205) (Mr := ([(g7187, .cells #[.slice A7182 p7181.Points.length c7183, iV p7181.Cursor, iV p7181.Mark] 25 (0, 0))] :: Fs)) ((perm_at (k := 1) rfl).trans (((perm_at (k := 1) rfl).trans (((perm_at (k := 1) rfl).trans ((List.Perm.refl _).cons _)).cons _)).cons _)) (fun v7212 J7213 M7214 hq7215 hJ7216 => ?_)
    replace hle := hle.trans hJ7216
    replace ho7199 := ho7199.mono hJ7216
    replace ho7205 := ho7205.mono hJ7216
    replace hr7180 := hr7180.mono hJ7216
    replace hr7184 := hr7184.mono hJ7216
    obtain ⟨A7217, c7218, s7219, A7221, c7222, s7223, rfl, rfl, ho7220, ho7224⟩ := hq7215
    refine at_end (at_in_norm (at_thn (at_reg0 [] [2, 5, 9, 20, 21, 22] [(2, .bool p7185), (5, .pointer (some ⟨g7187, 0, none⟩)), (9, .pointer (some ⟨g7188, 0, none⟩)), (20, .slice A7178 p7177.length c7179), (21, iV (p7177.length : Int)), (22, iV (IntKind.i64.wrap (x7191 + 1)))] ?_)))
    refine at_thn (at_perm ((perm_at (k := 3) rfl).trans ((List.Perm.refl _).cons _)) ?_)
    refine at_keep [2, 5, 9, 20, 21, 22] (L2 := [(2, .bool p7185), (5, .pointer (some ⟨g7187, 0, none⟩)), (9, .pointer (some ⟨g7188, 0, none⟩)), (20, .slice A7178 p7177.length c7179), (21, iV (p7177.length : Int)), (22, iV (IntKind.i64.wrap (x7191 + 1)))]) rfl ?_
    exact ih7207 _ (by omega) _ _ _ ⟨IntKind.i64.wrap (x7191 + 1), b7.cols, b7.row, b7.col, b7.cells, A7217, c7218, s7219, b7.inRow, b7.spots, A7221, c7222, s7223, rfl, rfl, H, hle, by omega, ho7220, ho7224, hr7180, hr7184⟩
   ·
    rw [if_neg h7209] at H
    refine at_cond_f rfl (decide_eq_false h7209) ?_
    refine at_exit (at_then_exit (at_then_exit (at_in_hit (at_thn (at_keep [2, 5, 9] (L2 := [(2, .bool p7185), (5, .pointer (some ⟨g7187, 0, none⟩)), (9, .pointer (some ⟨g7188, 0, none⟩))]) rfl ?_)))))
    exact Jn7189 _ _ _ ⟨_, x7192, x7193, x7194, x7195, A7196, c7197, s7198, x7200, x7201, A7202, c7203, s7204, rfl, rfl, H, hle, by omega, ho7199, ho7205, hr7184⟩

/-! ### loop.example/g00146/impl.GridNew: function 35 -/
mutual
def impl_GridNew_j1 : Nat → Bool → Int → Int → Option T_impl_Grid
  | 0, _, _, _ => none
  | k + 1, x7308, p7192, p7193 => if x7308 = true then (some (⟨0, 0, ([] : List T_impl_Cell), 0, 0, false, 0⟩ : T_impl_Grid)) else (impl_GridNew_j0 k p7192 p7193)
def impl_GridNew_j0 : Nat → Int → Int → Option T_impl_Grid
  | 0, _, _ => none
  | k + 1, p7192, p7193 => if 0 ≤ (IntKind.i64.wrap (p7192 * p7193)) then (if (IntKind.i64.wrap (p7192 * p7193)) ≤ 8796093022208 then (some (⟨p7192, p7193, (List.replicate (IntKind.i64.wrap (p7192 * p7193)).toNat z_impl_Cell : List T_impl_Cell), 0, 0, false, 0⟩ : T_impl_Grid)) else none) else none
end
def impl_GridNew (k : Nat) (p7192 : Int) (p7193 : Int) : Option T_impl_Grid := (impl_isRows p7192).bind fun b8 => (if b8 = true then ((impl_isCols p7193).bind fun b9 => (impl_GridNew_j1 k (!b9) p7192 p7193)) else (impl_GridNew_j1 k true p7192 p7193))
set_option maxHeartbeats 4000000 in
set_option maxRecDepth 100000 in
theorem impl_GridNew.calls {k : Nat} {p7192 : Int} {p7193 : Int} {r : T_impl_Grid} {I0 : Imm} (H : impl_GridNew k p7192 p7193 = some r) :
    Meets Try.prog 35 ([.int .i64 p7192, .int .i64 p7193] : List Value).toArray I0 [] (fun v J M => ∃ (A_1 : Option Addr) (c_2 : Nat) (s_3 : Seg), v = .agg #[.int .i64 r.Rows, .int .i64 r.Cols, .slice A_1 r.Cells.length c_2, .int .i64 r.Row, .int .i64 r.Col, .bool r.Hang, .int .i64 r.Attr] ∧ M = [s_3] ∧ DOwn d_impl_Cell 71 J A_1 c_2 r.Cells s_3) := by
 have hle := ImmLe.refl I0
 unfold impl_GridNew at H
 refine fn_intro (fn := Try.f35) 21 Try.func35 rfl rfl rfl (fun E Fs => ?_)
 refine at_seq (at_ops [0] rfl ?_)
 refine at_eff rfl rfl ?_
 obtain ⟨i_, hi_, hz_, _, _⟩ := info38
 refine eff_alloc rfl rfl hi_ hz_ #[iV 0, iV 0, .slice none ([] : List T_impl_Cell).length 0, iV 0, iV 0, .bool false, iV 0] rfl (fun g7194 => ?_)
 refine at_end (at_thn (at_join (fun L I Ms => ∃ (k7413 : Nat), L = [(0, iV p7192), (1, iV p7193), (4, .pointer (some ⟨g7194, 0, none⟩))] ∧ Ms = ([(g7194, .cells #[iV 0, iV 0, .slice none ([] : List T_impl_Cell).length 0, iV 0, iV 0, .bool false, iV 0] 38 (0, 0))] :: Fs) ∧ impl_GridNew_j0 k7413 p7192 p7193 = some r ∧ ImmLe I0 I ∧ k7413 ≤ k) ?_ ?_))
 ·
  clear H hle
  intro L I Ms h_; obtain ⟨k7413, hL_, hM_, H, hle, hk7414⟩ := h_; rw [hL_, hM_]; clear hL_ hM_ L Ms
  rcases k7413 with _ | k7413
  · exact (no_none H).elim
  rw [impl_GridNew_j0] at H
  refine at_seq (at_ops [0, 1, 2, 3, 4, 5, 6, 7] rfl ?_)
  refine at_seg0 [0, 1, 2, 3, 4] [5, 6, 7] [] [4, 14, 15, 18] [(4, .pointer (some ⟨g7194, 0, none⟩)), (14, iV p7192), (15, iV p7193), (18, iV (IntKind.i64.wrap (p7192 * p7193)))] ?_
  refine at_eff rfl rfl ?_
  obtain ⟨h7415, H⟩ := ite_some H
  obtain ⟨h7416, H⟩ := ite_some H
  obtain ⟨i_, hi_, hz_, hs_, hb_⟩ := info71
  refine eff_makeD (D := d_impl_Cell) (d := z_impl_Cell) rfl rfl rfl rfl und36 hi_ hz_ hs_ rfl rfl h7415 (by rw [hb_]; omega) (by omega) (fun g7417 s7418 ho7419 => ?_)
  refine at_seg0 [6] [7] [] [4, 20] [(4, .pointer (some ⟨g7194, 0, none⟩)), (20, .agg #[iV p7192, iV p7193, .slice (some ⟨g7417, 0, none⟩ : Option Addr) (List.replicate (IntKind.i64.wrap (p7192 * p7193)).toNat z_impl_Cell : List T_impl_Cell).length ((IntKind.i64.wrap (p7192 * p7193)).toNat), iV 0, iV 0, .bool false, iV 0])] ?_
  refine at_eff rfl rfl ?_
  refine eff_store 1 rfl rfl rfl rfl rfl rfl (.inl (Nat.le_refl _)) rfl (Nat.le_of_ble_eq_true (by kernel_rfl)) rfl ?_
  refine at_sg (s7418 :: [(g7194, .cells #[iV p7192, iV p7193, .slice (some ⟨g7417, 0, none⟩ : Option Addr) (List.replicate (IntKind.i64.wrap (p7192 * p7193)).toNat z_impl_Cell : List T_impl_Cell).length ((IntKind.i64.wrap (p7192 * p7193)).toNat), iV 0, iV 0, .bool false, iV 0] 38 (0, 0))] :: Fs) ?_
  refine at_end (at_thn (at_ret ?_))
  obtain rfl := Option.some.inj H
  refine at_done (vs := [.agg #[iV p7192, iV p7193, .slice (some ⟨g7417, 0, none⟩ : Option Addr) (List.replicate (IntKind.i64.wrap (p7192 * p7193)).toNat z_impl_Cell : List T_impl_Cell).length ((IntKind.i64.wrap (p7192 * p7193)).toNat), iV 0, iV 0, .bool false, iV 0]]) (obs := [fun w => CellsAt w ⟨g7194, 0, none⟩ [iV p7192, iV p7193, .slice (some ⟨g7417, 0, none⟩ : Option Addr) (List.replicate (IntKind.i64.wrap (p7192 * p7193)).toNat z_impl_Cell : List T_impl_Cell).length ((IntKind.i64.wrap (p7192 * p7193)).toNat), iV 0, iV 0, .bool false, iV 0] 0]) (.inl rfl) [.cell 4 38] [(4, .agg #[iV p7192, iV p7193, .slice (some ⟨g7417, 0, none⟩ : Option Addr) (List.replicate (IntKind.i64.wrap (p7192 * p7193)).toNat z_impl_Cell : List T_impl_Cell).length ((IntKind.i64.wrap (p7192 * p7193)).toNat), iV 0, iV 0, .bool false, iV 0])] rfl (by kernel_rfl) (fun w hs => cellsV (k := 1) hs rfl _ 0 (Nat.le_of_ble_eq_true (by kernel_rfl)) rfl) (fun w hs => ⟨_, _, [s7418], rfl, ⟨(some ⟨g7417, 0, none⟩ : Option Addr), (IntKind.i64.wrap (p7192 * p7193)).toNat, s7418, rfl, rfl, ho7419⟩, hle, (hs.tail (perm_at (k := 1) rfl))⟩)
 ·
  intro Jn7195
  refine at_join (fun L I Ms => ∃ (k7309 : Nat), ∃ (x7308 : Bool), L = [(0, iV p7192), (1, iV p7193), (4, .pointer (some ⟨g7194, 0, none⟩)), (12, .bool x7308)] ∧ Ms = ([(g7194, .cells #[iV 0, iV 0, .slice none ([] : List T_impl_Cell).length 0, iV 0, iV 0, .bool false, iV 0] 38 (0, 0))] :: Fs) ∧ impl_GridNew_j1 k7309 x7308 p7192 p7193 = some r ∧ ImmLe I0 I ∧ k7309 ≤ k) ?_ ?_
  ·
   clear H hle
   intro L I Ms h_; obtain ⟨k7309, x7308, hL_, hM_, H, hle, hk7310⟩ := h_; rw [hL_, hM_]; clear hL_ hM_ L Ms
   rcases k7309 with _ | k7309
   · exact (no_none H).elim
   rw [impl_GridNew_j1] at H
   by_cases h7311 : x7308 = true
   ·
    rw [if_pos h7311] at H
    refine at_cond_t rfl (h7311) ?_
    refine at_seq (at_ops [0, 1] rfl ?_)
    refine at_seg0 [0] [1] [] [4, 13] [(4, .pointer (some ⟨g7194, 0, none⟩)), (13, .agg #[iV 0, iV 0, .slice none ([] : List T_impl_Cell).length 0, iV 0, iV 0, .bool false, iV 0])] ?_
    refine at_eff rfl rfl ?_
    refine eff_store 0 rfl rfl rfl rfl rfl rfl (.inl (Nat.le_refl _)) rfl (Nat.le_of_ble_eq_true (by kernel_rfl)) rfl ?_
    refine at_sg ([(g7194, .cells #[iV 0, iV 0, .slice none ([] : List T_impl_Cell).length 0, iV 0, iV 0, .bool false, iV 0] 38 (0, 0))] :: Fs) ?_
    refine at_end (at_thn (at_ret (at_then_ret (at_nilseg ?_))))
    have hd7312 := DOwn.nil d_impl_Cell 71 I
    obtain rfl := Option.some.inj H
    refine at_done (vs := [.agg #[iV 0, iV 0, .slice none ([] : List T_impl_Cell).length 0, iV 0, iV 0, .bool false, iV 0]]) (obs := [fun w => CellsAt w ⟨g7194, 0, none⟩ [iV 0, iV 0, .slice none ([] : List T_impl_Cell).length 0, iV 0, iV 0, .bool false, iV 0] 0]) (.inl rfl) [.cell 4 38] [(4, .agg #[iV 0, iV 0, .slice none ([] : List T_impl_Cell).length 0, iV 0, iV 0, .bool false, iV 0])] rfl (by kernel_rfl) (fun w hs => cellsV (k := 1) hs rfl _ 0 (Nat.le_of_ble_eq_true (by kernel_rfl)) rfl) (fun w hs => ⟨_, _, [[]], rfl, ⟨none, 0, [], rfl, rfl, hd7312⟩, hle, (hs.tail (perm_at (k := 1) rfl))⟩)
   ·
    rw [if_neg h7311] at H
    refine at_cond_f rfl (ff_of h7311) ?_
    refine at_skip (at_thn (at_keep [0, 1, 4] (L2 := [(0, iV p7192), (1, iV p7193), (4, .pointer (some ⟨g7194, 0, none⟩))]) rfl ?_))
    exact Jn7195 _ _ _ ⟨_, rfl, rfl, H, hle, by omega⟩
  ·
   intro Jn7195
   refine at_ops [0, 1, 2, 3, 4, 5, 6, 7] rfl ?_
   refine at_seg0 [0] [1, 2, 3, 4, 5, 6, 7] [] [0, 1, 4, 5] [(0, iV p7192), (1, iV p7193), (4, .pointer (some ⟨g7194, 0, none⟩)), (5, iV p7192)] ?_
   refine at_eff rfl rfl ?_
   obtain ⟨b8, H7195, H⟩ := bind_some H
   have hm_ := impl_isRows.calls (I0 := I0) H7195
   refine eff_call rfl rfl ok34 rfl rfl (show Meets Try.prog 34 ([iV p7192] : List Value).toArray _ [] _ from hm_) (Mr := ([(g7194, .cells #[iV 0, iV 0, .slice none ([] : List T_impl_Cell).length 0, iV 0, iV 0, .bool false, iV 0] 38 (0, 0))] :: Fs)) (List.Perm.refl _) (fun v7196 J7197 M7198 hq7199 hJ7200 => ?_)
   replace hle := hle.trans hJ7200
   obtain ⟨rfl, rfl⟩ := hq7199
   by_cases h7201 : b8 = true
   ·
    rw [if_pos h7201] at H
    refine at_seg1 [2, 3, 4] [5, 6, 7] [(3, .bool false)] [0, 1, 4, 8, 9] [(0, iV p7192), (1, iV p7193), (4, .pointer (some ⟨g7194, 0, none⟩)), (8, .bool false), (9, iV p7193)] [fun _ => (.bool (!b8) : Value) = .bool false] (fun w hs => congrArg Value.bool (not_ff (h7201))) ?_
    refine at_eff rfl rfl ?_
    obtain ⟨b9, H7202, H⟩ := bind_some H
    have hm_ := impl_isCols.calls (I0 := J7197) H7202
    refine eff_call rfl rfl ok38 rfl rfl (show Meets Try.prog 38 ([iV p7193] : List Value).toArray _ [] _ from hm_) (Mr := ([(g7194, .cells #[iV 0, iV 0, .slice none ([] : List T_impl_Cell).length 0, iV 0, iV 0, .bool false, iV 0] 38 (0, 0))] :: Fs)) (List.Perm.refl _) (fun v7203 J7204 M7205 hq7206 hJ7207 => ?_)
    replace hle := hle.trans hJ7207
    obtain ⟨rfl, rfl⟩ := hq7206
    refine at_seg0 [6, 7] [] [] [0, 1, 4, 12] [(0, iV p7192), (1, iV p7193), (4, .pointer (some ⟨g7194, 0, none⟩)), (12, .bool (!b9))] ?_
    refine at_end (at_thn (at_keep [0, 1, 4, 12] (L2 := [(0, iV p7192), (1, iV p7193), (4, .pointer (some ⟨g7194, 0, none⟩)), (12, .bool (!b9))]) rfl ?_))
    exact Jn7195 _ _ _ ⟨_, (!b9), rfl, rfl, H, hle, by omega⟩
   ·
    rw [if_neg h7201] at H
    refine at_seg1 [2, 3, 4] [5, 6, 7] [(3, .bool true)] [0, 1, 4, 8, 9] [(0, iV p7192), (1, iV p7193), (4, .pointer (some ⟨g7194, 0, none⟩)), (8, .bool true), (9, undef)] [fun _ => (.bool (!b8) : Value) = .bool true] (fun w hs => congrArg Value.bool (not_tt (ff_of h7201))) ?_
    refine at_seg0 [5, 6, 7] [] [] [0, 1, 4, 12] [(0, iV p7192), (1, iV p7193), (4, .pointer (some ⟨g7194, 0, none⟩)), (12, .bool true)] ?_
    refine at_end (at_thn (at_keep [0, 1, 4, 12] (L2 := [(0, iV p7192), (1, iV p7193), (4, .pointer (some ⟨g7194, 0, none⟩)), (12, .bool true)]) rfl ?_))
    exact Jn7195 _ _ _ ⟨_, true, rfl, rfl, H, hle, by omega⟩

/-! ### (*loop.example/g00146/impl.Cell).isWide: function 37 -/
def impl_Cell_isWide (k : Nat) (p19235 : List T_impl_Cell) (p19236 : Int) : Option Bool := if (((rdA z_impl_Cell p19235 p19236).Points).length : Int) > 0 then (if 0 < (((rdA z_impl_Cell p19235 p19236).Points).length : Int) then ((impl_WidthOf k (rdA 0 ((rdA z_impl_Cell p19235 p19236).Points) 0)).bind fun b10 => (some (b10 == 2))) else none) else (some false)
set_option maxHeartbeats 4000000 in
set_option maxRecDepth 100000 in
theorem impl_Cell_isWide.calls {k : Nat} {p19235 : List T_impl_Cell} {p19236 : Int} {r : Bool} {I0 : Imm} {A19237 : Option Addr} {c19238 : Nat} {s19243 : Seg} (H : impl_Cell_isWide k p19235 p19236 = some r) (ho19242 : Own k_impl_Cell 71 I0 A19237 c19238 p19235 s19243) (h19240 : 0 ≤ p19236) (h19241 : p19236 < (p19235.length : Int)) :
    Meets Try.prog 37 ([.pointer (some ((A19237.getD ad0).add (p19236.toNat * 2)))] : List Value).toArray I0 [s19243] (fun v J M => v = .bool r ∧ M = [s19243]) := by
 have hle := ImmLe.refl I0
 unfold impl_Cell_isWide at H
 refine fn_intro (fn := Try.f37) 19 Try.func37 rfl rfl rfl (fun E Fs => ?_)
 refine at_seq (at_reg0 [] [0] [(0, .pointer (some ((A19237.getD ad0).add (p19236.toNat * 2))))] ?_)
 refine at_thn (at_seq (at_ops [0, 1, 2, 3, 4, 5, 6, 7, 8, 9, 10, 11, 12, 13, 14, 15, 16] rfl ?_))
 by_cases h19250 : (((rdA z_impl_Cell p19235 p19236).Points).length : Int) > 0
 ·
  rw [if_pos h19250] at H
  obtain ⟨h19257, H⟩ := ite_some H
  obtain ⟨cs19255, hz19256, hc19251⟩ := ho19242.elem z_impl_Cell p19236 h19240 h19241
  obtain ⟨A19252, c19253, rfl, hr19254⟩ := hz19256
  refine at_seg1 [0, 1, 2, 3, 4, 5, 6, 7, 8, 9, 10, 11, 12] [13, 14, 15, 16] [(3, .slice A19252 ((rdA z_impl_Cell p19235 p19236).Points).length c19253), (6, .bool true), (10, .slice A19252 ((rdA z_impl_Cell p19235 p19236).Points).length c19253), (12, iV (rdA 0 ((rdA z_impl_Cell p19235 p19236).Points) 0))] [9, 15] [(9, .bool true), (15, iV (rdA 0 ((rdA z_impl_Cell p19235 p19236).Points) 0))] [fun w => w.cell? (((A19237.getD ad0).add (p19236.toNat * 2)).add 0) = some (.slice A19252 ((rdA z_impl_Cell p19235 p19236).Points).length c19253), oT ((((rdA z_impl_Cell p19235 p19236).Points).length : Int) > 0), fun w => w.cell? (((A19237.getD ad0).add (p19236.toNat * 2)).add 0) = some (.slice A19252 ((rdA z_impl_Cell p19235 p19236).Points).length c19253), fun _ => A19252.isSome = true ∧ 0 ≤ (0 : Int) ∧ (0 : Int) < ((((rdA z_impl_Cell p19235 p19236).Points).length : Nat) : Int), fun w => w.cell? ((A19252.getD ad0).add ((0 : Int).toNat * 1)) = some (iV (rdA 0 ((rdA z_impl_Cell p19235 p19236).Points) 0))] (fun w hs => ⟨hc19251 0 _ rfl hs (k := 0) rfl, cT (h19250), hc19251 0 _ rfl hs (k := 0) rfl, ⟨hr19254.ne 0 (by decide : (0 : Int) ≤ 0) h19257, (by decide : (0 : Int) ≤ 0), h19257⟩, hr19254.one 0 0 (by decide : (0 : Int) ≤ 0) h19257 hs⟩) ?_
  refine at_eff rfl rfl ?_
  obtain ⟨b10, H19258, H⟩ := bind_some H
  have hm_ := impl_WidthOf.calls (I0 := I0) H19258
  refine eff_call rfl rfl ok55 rfl rfl (show Meets Try.prog 55 ([iV (rdA 0 ((rdA z_impl_Cell p19235 p19236).Points) 0)] : List Value).toArray _ [] _ from hm_) (Mr := (s19243 :: Fs)) (List.Perm.refl _) (fun v19259 J19260 M19261 hq19262 hJ19263 => ?_)
  replace hle := hle.trans hJ19263
  obtain ⟨rfl, rfl⟩ := hq19262
  refine at_seg0 [14, 15, 16] [] [] [2] [(2, .bool (b10 == 2))] ?_
  refine at_end (at_thn (at_ret ?_))
  obtain rfl := Option.some.inj H
  exact at_done0 [.bool (b10 == 2)] (.inl rfl) [.tmp 2] fun w hs => ⟨_, _, [s19243], rfl, ⟨rfl, rfl⟩, hle, hs⟩
 ·
  rw [if_neg h19250] at H
  obtain ⟨cs19268, hz19269, hc19264⟩ := ho19242.elem z_impl_Cell p19236 h19240 h19241
  obtain ⟨A19265, c19266, rfl, hr19267⟩ := hz19269
  refine at_seg1 [0, 1, 2, 3, 4, 5, 6, 7, 8, 9, 10, 11, 12] [13, 14, 15, 16] [(3, .slice A19265 ((rdA z_impl_Cell p19235 p19236).Points).length c19266), (6, .bool false)] [9, 15] [(9, .bool false), (15, undef)] [fun w => w.cell? (((A19237.getD ad0).add (p19236.toNat * 2)).add 0) = some (.slice A19265 ((rdA z_impl_Cell p19235 p19236).Points).length c19266), oF ((((rdA z_impl_Cell p19235 p19236).Points).length : Int) > 0)] (fun w hs => ⟨hc19264 0 _ rfl hs (k := 0) rfl, cF (h19250)⟩) ?_
  refine at_seg0 [13, 14, 15, 16] [] [] [2] [(2, .bool false)] ?_
  refine at_end (at_thn (at_ret ?_))
  obtain rfl := Option.some.inj H
  exact at_done0 [.bool false] (.inl rfl) [.tmp 2] fun w hs => ⟨_, _, [s19243], rfl, ⟨rfl, rfl⟩, hle, hs⟩
end Go.Proofs.Ytnhnipdanpcbeaa
