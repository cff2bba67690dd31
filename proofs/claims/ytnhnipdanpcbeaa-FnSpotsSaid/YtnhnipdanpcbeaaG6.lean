import Derived.Test.YtnhnipdanpcbeaaG5
namespace Go.Proofs.Ytnhnipdanpcbeaa
open Go Eng
set_option linter.unusedVariables false
set_option linter.unusedSimpArgs false
/-! ### (*loop.example/g00146/impl.layout).point: function 47 -/
def impl_layout_point_l0 : Nat → Int → Int → Int → Int → (List T_impl_seen) → Bool → (List T_impl_Spot) → (List Int) → Int → Option T_impl_layout
  | 0, _, _, _, _, _, _, _, _, _ => none
  | k + 1, x102, x103, x104, x105, x106, x111, x112, b5, p76 => if x102 < (b5.length : Int) then (if 0 ≤ x102 then ((impl_WidthOf k (rdA 0 b5 x102)).bind fun b6 => (if b6 = 0 then (if x111 = true then (if 0 ≤ (IntKind.i64.wrap ((x106.length : Int) - 1)) then (if (IntKind.i64.wrap ((x106.length : Int) - 1)) < (x106.length : Int) then (if (((rdA z_impl_seen x106 (IntKind.i64.wrap ((x106.length : Int) - 1))).cell.Points).length : Int) < 4 then (if ((rdA z_impl_seen x106 (IntKind.i64.wrap ((x106.length : Int) - 1))).cell.Points).length + ([rdA 0 b5 x102] : List Int).length ≤ 17592186044416 then (impl_layout_point_l0 k (IntKind.i64.wrap (x102 + 1)) x103 x104 x105 (x106.set (IntKind.i64.wrap ((x106.length : Int) - 1)).toNat (⟨(⟨((rdA z_impl_seen x106 (IntKind.i64.wrap ((x106.length : Int) - 1))).cell.Points ++ ([rdA 0 b5 x102] : List Int)), (rdA z_impl_seen x106 (IntKind.i64.wrap ((x106.length : Int) - 1))).cell.Attr⟩ : T_impl_Cell), (rdA z_impl_seen x106 (IntKind.i64.wrap ((x106.length : Int) - 1))).row, (rdA z_impl_seen x106 (IntKind.i64.wrap ((x106.length : Int) - 1))).col⟩ : T_impl_seen)) x111 x112 b5 p76) else none) else (impl_layout_point_l0 k (IntKind.i64.wrap (x102 + 1)) x103 x104 x105 x106 x111 x112 b5 p76)) else none) else none) else (impl_layout_point_l0 k (IntKind.i64.wrap (x102 + 1)) x103 x104 x105 x106 x111 x112 b5 p76)) else (if (IntKind.i64.wrap (x103 - x105)) < b6 then ((impl_layout_next (⟨x103, x104, x105, x106, x111, x112⟩ : T_impl_layout)).bind fun b7 => (if b7.cells.length + ([(⟨(⟨([rdA 0 b5 x102] : List Int), p76⟩ : T_impl_Cell), b7.row, b7.col⟩ : T_impl_seen)] : List T_impl_seen).length ≤ 2932031007402 then (impl_layout_point_l0 k (IntKind.i64.wrap (x102 + 1)) b7.cols b7.row (IntKind.i64.wrap (b7.col + b6)) (b7.cells ++ ([(⟨(⟨([rdA 0 b5 x102] : List Int), p76⟩ : T_impl_Cell), b7.row, b7.col⟩ : T_impl_seen)] : List T_impl_seen)) true b7.spots b5 p76) else none)) else (if x106.length + ([(⟨(⟨([rdA 0 b5 x102] : List Int), p76⟩ : T_impl_Cell), x104, x105⟩ : T_impl_seen)] : List T_impl_seen).length ≤ 2932031007402 then (impl_layout_point_l0 k (IntKind.i64.wrap (x102 + 1)) x103 x104 (IntKind.i64.wrap (x105 + b6)) (x106 ++ ([(⟨(⟨([rdA 0 b5 x102] : List Int), p76⟩ : T_impl_Cell), x104, x105⟩ : T_impl_seen)] : List T_impl_seen)) true x112 b5 p76) else none)))) else none) else (some (⟨x103, x104, x105, x106, x111, x112⟩ : T_impl_layout))
def impl_layout_point (k : Nat) (p66 : T_impl_layout) (p75 : Int) (p76 : Int) : Option T_impl_layout := if p75 = 10 then ((impl_layout_next p66).bind fun b4 => (some b4)) else ((impl_shown p75).bind fun b5 => (impl_layout_point_l0 k 0 p66.cols p66.row p66.col p66.cells p66.inRow p66.spots b5 p76))
set_option maxHeartbeats 4000000 in
set_option maxRecDepth 100000 in
theorem impl_layout_point.calls {k : Nat} {p66 : T_impl_layout} {p75 : Int} {p76 : Int} {r : T_impl_layout} {I0 : Imm} {g65 : Nat} {A67 : Option Addr} {c68 : Nat} {s69 : Seg} {A71 : Option Addr} {c72 : Nat} {s73 : Seg} (H : impl_layout_point k p66 p75 p76 = some r) (ho70 : DOwn d_impl_seen 74 I0 A67 c68 p66.cells s69) (ho74 : Own k_impl_Spot 31 I0 A71 c72 p66.spots s73) :
    Meets Try.prog 47 ([.pointer (some ⟨g65, 0, none⟩), .int .i64 p75, .int .i64 p76] : List Value).toArray I0 [[(g65, .cells #[.int .i64 p66.cols, .int .i64 p66.row, .int .i64 p66.col, .slice A67 p66.cells.length c68, .bool p66.inRow, .slice A71 p66.spots.length c72] 63 (0, 0))], s69, s73] (fun v J M => ∃ (A_1 : Option Addr) (c_2 : Nat) (s_3 : Seg) (A_4 : Option Addr) (c_5 : Nat) (s_6 : Seg), v = .tuple #[] ∧ M = [[(g65, .cells #[.int .i64 r.cols, .int .i64 r.row, .int .i64 r.col, .slice A_1 r.cells.length c_2, .bool r.inRow, .slice A_4 r.spots.length c_5] 63 (0, 0))], s_3, s_6] ∧ DOwn d_impl_seen 74 J A_1 c_2 r.cells s_3 ∧ Own k_impl_Spot 31 J A_4 c_5 r.spots s_6) := by
  have hle := ImmLe.refl I0
  unfold impl_layout_point at H
  refine fn_intro (fn := Try.f47) 104 Try.func47 rfl rfl rfl (fun E Fs => ?_)
  refine at_seq ?_
  refine at_seq ?_
  refine at_reg [] [0, 1, 2, 11] (L2 := [(0, .pointer (some ⟨g65, 0, none⟩)), (1, .int .i64 p75), (2, .int .i64 p76), (11, .bool (p75 == 10))]) (obs := []) (by kernel_rfl) ?_ ?_
  · intro w hs; exact trivial
  refine at_thn ?_
  by_cases h77 : p75 = 10
  · rw [if_pos h77] at H
    refine at_cond_t rfl (beq_iff_eq.2 h77) ?_
    refine at_seq ?_
    refine at_ops [0, 1] rfl ?_
    refine at_seg [0] [1] rfl [] [12] (L2 := [(12, .pointer (some ⟨g65, 0, none⟩))]) (obs := []) (by kernel_rfl) ?_ ?_
    · intro w hs; exact trivial
    refine at_eff rfl rfl ?_
    obtain ⟨b4, H78, H⟩ := bind_some H
    refine eff_call rfl rfl ok64 rfl rfl (show Meets Try.prog 64 ([.pointer (some ⟨g65, 0, none⟩)] : List Value).toArray _ [[(g65, .cells #[.int .i64 p66.cols, .int .i64 p66.row, .int .i64 p66.col, .slice A67 p66.cells.length c68, .bool p66.inRow, .slice A71 p66.spots.length c72] 63 (0, 0))], s69, s73] _ from impl_layout_next.calls H78 ho70 ho74) (Mr := (Fs)) (List.Perm.refl _) (fun v79 J80 M81 hq82 hJ83 => ?_)
    replace hle := hle.trans hJ83
    replace ho70 := ho70.mono hJ83
    replace ho74 := ho74.mono hJ83
    obtain ⟨A84, c85, s86, A88, c89, s90, rfl, rfl, ho87, ho91⟩ := hq82
    refine at_end ?_
    refine at_thn ?_
    refine at_ret ?_
    refine at_then_ret ?_
    obtain rfl := Option.some.inj H
    refine at_done (vs := []) (obs := []) (.inl rfl) [] [] rfl (by kernel_rfl) (fun w hs => trivial) (fun w hs => ⟨_, _, [[(g65, .cells #[.int .i64 b4.cols, .int .i64 b4.row, .int .i64 b4.col, .slice A84 b4.cells.length c85, .bool b4.inRow, .slice A88 b4.spots.length c89] 63 (0, 0))], s86, s90], rfl, ⟨A84, c85, s86, A88, c89, s90, rfl, rfl, ho87, ho91⟩, hle, hs⟩)
  · rw [if_neg h77] at H
    refine at_cond_f rfl (beq_eq_false_iff_ne.2 h77) ?_
    refine at_skip ?_
    refine at_thn ?_
    refine at_seq ?_
    refine at_ops [0, 1, 2, 3] rfl ?_
    refine at_seg [0] [1, 2, 3] rfl [] [0, 2, 14] (L2 := [(0, .pointer (some ⟨g65, 0, none⟩)), (2, .int .i64 p76), (14, .int .i64 p75)]) (obs := []) (by kernel_rfl) ?_ ?_
    · intro w hs; exact trivial
    refine at_eff rfl rfl ?_
    obtain ⟨b5, H92, H⟩ := bind_some H
    have hm_ := impl_shown.calls (I0 := I0) H92
    refine eff_call rfl rfl ok65 rfl rfl (show Meets Try.prog 65 ([.int .i64 p75] : List Value).toArray _ [] _ from hm_) (Mr := ([(g65, .cells #[.int .i64 p66.cols, .int .i64 p66.row, .int .i64 p66.col, .slice A67 p66.cells.length c68, .bool p66.inRow, .slice A71 p66.spots.length c72] 63 (0, 0))] :: s69 :: s73 :: Fs)) (List.Perm.refl _) (fun v93 J94 M95 hq96 hJ97 => ?_)
    replace hle := hle.trans hJ97
    replace ho70 := ho70.mono hJ97
    replace ho74 := ho74.mono hJ97
    obtain ⟨A98, c99, s100, rfl, rfl, ho101⟩ := hq96
    refine at_seg [2, 3] [] rfl [] [0, 2, 15, 16, 17] (L2 := [(0, .pointer (some ⟨g65, 0, none⟩)), (2, .int .i64 p76), (15, .slice A98 b5.length c99), (16, .int .i64 (b5.length : Int)), (17, .int .i64 0)]) (obs := []) (by kernel_rfl) ?_ ?_
    · intro w hs; exact trivial
    refine at_end ?_
    refine at_thn ?_
    refine at_block ?_
    refine at_perm ((perm_at (k := 1) rfl).trans ((List.Perm.refl _).cons _)) ?_
    refine at_keep [0, 2, 15, 16, 17] (L2 := [(0, .pointer (some ⟨g65, 0, none⟩)), (2, .int .i64 p76), (15, .slice A98 b5.length c99), (16, .int .i64 (b5.length : Int)), (17, .int .i64 0)]) rfl ?_
    refine at_loop (fun k117 L I Ms => ∃ (x102 : Int) (x103 : Int) (x104 : Int) (x105 : Int) (x106 : List T_impl_seen) (A107 : Option Addr) (c108 : Nat) (s109 : Seg) (x111 : Bool) (x112 : List T_impl_Spot) (A113 : Option Addr) (c114 : Nat) (s115 : Seg), L = [(0, .pointer (some ⟨g65, 0, none⟩)), (2, .int .i64 p76), (15, .slice A98 b5.length c99), (16, .int .i64 (b5.length : Int)), (17, .int .i64 x102)] ∧ Ms = ([(g65, .cells #[.int .i64 x103, .int .i64 x104, .int .i64 x105, .slice A107 x106.length c108, .bool x111, .slice A113 x112.length c114] 63 (0, 0))] :: s100 :: s109 :: s115 :: Fs) ∧ impl_layout_point_l0 k117 x102 x103 x104 x105 x106 x111 x112 b5 p76 = some r ∧ ImmLe I0 I ∧ k117 ≤ k ∧ Own (Kd.int .i64) 2 I A98 c99 b5 s100 ∧ DOwn d_impl_seen 74 I A107 c108 x106 s109 ∧ Own k_impl_Spot 31 I A113 c114 x112 s115) ?_ ?_ k ⟨0, p66.cols, p66.row, p66.col, p66.cells, A67, c68, s69, p66.inRow, p66.spots, A71, c72, s73, rfl, rfl, H, hle, Nat.le_refl _, ho101, ho70, ho74⟩
    · rintro L I Ms ⟨_, _, _, _, _, _, _, _, _, _, _, _, _, rfl, rfl, H, _⟩; exact no_none H
    · clear H hle ho101 ho70 ho74
      intro k117 ih118 L I Ms h_; obtain ⟨x102, x103, x104, x105, x106, A107, c108, s109, x111, x112, A113, c114, s115, hL_, hM_, H, hle, hk119, ho101, ho110, ho116⟩ := h_; rw [hL_, hM_]; clear hL_ hM_ L Ms
      rw [impl_layout_point_l0] at H
      refine at_seq ?_
      refine at_reg [] [0, 2, 15, 16, 17, 18] (L2 := [(0, .pointer (some ⟨g65, 0, none⟩)), (2, .int .i64 p76), (15, .slice A98 b5.length c99), (16, .int .i64 (b5.length : Int)), (17, .int .i64 x102), (18, .bool (decide (x102 < (b5.length : Int))))]) (obs := []) (by kernel_rfl) ?_ ?_
      · intro w hs; exact trivial
      refine at_thn ?_
      refine at_seq ?_
      by_cases h120 : x102 < (b5.length : Int)
      · rw [if_pos h120] at H
        refine at_cond_t rfl (decide_eq_true h120) ?_
        refine at_skip ?_
        refine at_thn ?_
        refine at_seq ?_
        refine at_block ?_
        refine at_seq ?_
        obtain ⟨h121, H⟩ := ite_some H
        refine at_reg [(1, .int .i64 (rdA 0 b5 x102))] [0, 2, 7, 15, 16, 17] (L2 := [(0, .pointer (some ⟨g65, 0, none⟩)), (2, .int .i64 p76), (7, .int .i64 (rdA 0 b5 x102)), (15, .slice A98 b5.length c99), (16, .int .i64 (b5.length : Int)), (17, .int .i64 x102)]) (obs := [fun _ => A98.isSome = true ∧ 0 ≤ x102 ∧ x102 < ((b5.length : Nat) : Int), fun w => w.cell? ((A98.getD ad0).add (x102.toNat * 1)) = some (.int .i64 (rdA 0 b5 x102))]) (by kernel_rfl) ?_ ?_
        · intro w hs; exact ⟨⟨ho101.ne x102 h121 h120, h121, h120⟩, ho101.one 0 x102 h121 h120 hs (k := 1) rfl⟩
        refine at_thn ?_
        refine at_seq ?_
        refine at_ops [0, 1, 2] rfl ?_
        refine at_seg [0] [1, 2] rfl [] [0, 2, 7, 15, 16, 17, 21] (L2 := [(0, .pointer (some ⟨g65, 0, none⟩)), (2, .int .i64 p76), (7, .int .i64 (rdA 0 b5 x102)), (15, .slice A98 b5.length c99), (16, .int .i64 (b5.length : Int)), (17, .int .i64 x102), (21, .int .i64 (rdA 0 b5 x102))]) (obs := []) (by kernel_rfl) ?_ ?_
        · intro w hs; exact trivial
        refine at_eff rfl rfl ?_
        obtain ⟨b6, H122, H⟩ := bind_some H
        have hm_ := impl_WidthOf.calls (I0 := I) H122
        refine eff_call rfl rfl ok55 rfl rfl (show Meets Try.prog 55 ([.int .i64 (rdA 0 b5 x102)] : List Value).toArray _ [] _ from hm_) (Mr := ([(g65, .cells #[.int .i64 x103, .int .i64 x104, .int .i64 x105, .slice A107 x106.length c108, .bool x111, .slice A113 x112.length c114] 63 (0, 0))] :: s100 :: s109 :: s115 :: Fs)) (List.Perm.refl _) (fun v123 J124 M125 hq126 hJ127 => ?_)
        replace hle := hle.trans hJ127
        replace ho101 := ho101.mono hJ127
        replace ho110 := ho110.mono hJ127
        replace ho116 := ho116.mono hJ127
        obtain ⟨rfl, rfl⟩ := hq126
        refine at_seg [2] [] rfl [] [0, 2, 7, 8, 15, 16, 17] (L2 := [(0, .pointer (some ⟨g65, 0, none⟩)), (2, .int .i64 p76), (7, .int .i64 (rdA 0 b5 x102)), (8, .int .i64 b6), (15, .slice A98 b5.length c99), (16, .int .i64 (b5.length : Int)), (17, .int .i64 x102)]) (obs := []) (by kernel_rfl) ?_ ?_
        · intro w hs; exact trivial
        refine at_end ?_
        refine at_thn ?_
        refine at_seq ?_
        refine at_seq ?_
        refine at_reg [] [0, 2, 7, 8, 15, 16, 17, 24] (L2 := [(0, .pointer (some ⟨g65, 0, none⟩)), (2, .int .i64 p76), (7, .int .i64 (rdA 0 b5 x102)), (8, .int .i64 b6), (15, .slice A98 b5.length c99), (16, .int .i64 (b5.length : Int)), (17, .int .i64 x102), (24, .bool (b6 == 0))]) (obs := []) (by kernel_rfl) ?_ ?_
        · intro w hs; exact trivial
        refine at_thn ?_
        by_cases h128 : b6 = 0
        · rw [if_pos h128] at H
          refine at_cond_t rfl (beq_iff_eq.2 h128) ?_
          refine at_seq ?_
          refine at_seq ?_
          refine at_reg [(3, .bool x111)] [0, 2, 7, 15, 16, 17, 28] (L2 := [(0, .pointer (some ⟨g65, 0, none⟩)), (2, .int .i64 p76), (7, .int .i64 (rdA 0 b5 x102)), (15, .slice A98 b5.length c99), (16, .int .i64 (b5.length : Int)), (17, .int .i64 x102), (28, .bool x111)]) (obs := [fun w => w.cell? ⟨g65, 4, none⟩ = some (.bool x111)]) (by kernel_rfl) ?_ ?_
          · intro w hs; exact hs.var (k := 0) rfl 4 rfl
          refine at_thn ?_
          by_cases h129 : x111 = true
          · rw [if_pos h129] at H
            refine at_cond_t rfl (h129) ?_
            refine at_seq ?_
            obtain ⟨h130, H⟩ := ite_some H
            obtain ⟨h131, H⟩ := ite_some H
            refine at_regd hmo [(3, .slice A107 x106.length c108), (7, .slice A107 x106.length c108)] [0, 2, 7, 9, 15, 16, 17] (by kernel_rfl) (L2 := [(0, .pointer (some ⟨g65, 0, none⟩)), (2, .int .i64 p76), (7, .int .i64 (rdA 0 b5 x102)), (9, .pointer (some (((A107.getD ad0).add ((IntKind.i64.wrap ((x106.length : Int) - 1)).toNat * 4)).add 0))), (15, .slice A98 b5.length c99), (16, .int .i64 (b5.length : Int)), (17, .int .i64 x102)]) (obs := [fun w => w.cell? ⟨g65, 3, none⟩ = some (.slice A107 x106.length c108), fun w => w.cell? ⟨g65, 3, none⟩ = some (.slice A107 x106.length c108), fun _ => A107.isSome = true ∧ 0 ≤ (IntKind.i64.wrap ((x106.length : Int) - 1)) ∧ (IntKind.i64.wrap ((x106.length : Int) - 1)) < ((x106.length : Nat) : Int)]) (by kernel_rfl) ?_ ?_
            · intro w hs; exact ⟨hs.var (k := 0) rfl 3 rfl, hs.var (k := 0) rfl 3 rfl, ⟨ho110.ne (IntKind.i64.wrap ((x106.length : Int) - 1)) h130 h131, h130, h131⟩⟩
            refine at_thn ?_
            refine at_seq ?_
            obtain ⟨A132, c133, hd134⟩ := ho110.at z_impl_seen (IntKind.i64.wrap ((x106.length : Int) - 1)) h130 h131
            have hc135 := hd134.cells
            have hi136 : OwnIn (Kd.int .i64) 2 J124 A132 c133 ((rdA z_impl_seen x106 (IntKind.i64.wrap ((x106.length : Int) - 1))).cell.Points) s109 := hd134.inn
            refine at_reg [(3, .slice A132 ((rdA z_impl_seen x106 (IntKind.i64.wrap ((x106.length : Int) - 1))).cell.Points).length c133)] [0, 2, 7, 9, 15, 16, 17, 46] (L2 := [(0, .pointer (some ⟨g65, 0, none⟩)), (2, .int .i64 p76), (7, .int .i64 (rdA 0 b5 x102)), (9, .pointer (some (((A107.getD ad0).add ((IntKind.i64.wrap ((x106.length : Int) - 1)).toNat * 4)).add 0))), (15, .slice A98 b5.length c99), (16, .int .i64 (b5.length : Int)), (17, .int .i64 x102), (46, .bool (decide ((((rdA z_impl_seen x106 (IntKind.i64.wrap ((x106.length : Int) - 1))).cell.Points).length : Int) < 4)))]) (obs := [fun w => w.cell? ((((A107.getD ad0).add ((IntKind.i64.wrap ((x106.length : Int) - 1)).toNat * 4)).add 0).add 0) = some (.slice A132 ((rdA z_impl_seen x106 (IntKind.i64.wrap ((x106.length : Int) - 1))).cell.Points).length c133)]) (by kernel_rfl) ?_ ?_
            · intro w hs; exact (by rw [add_add']; exact hc135 0 _ rfl hs (k := 2) rfl)
            refine at_thn ?_
            by_cases h137 : (((rdA z_impl_seen x106 (IntKind.i64.wrap ((x106.length : Int) - 1))).cell.Points).length : Int) < 4
            · rw [if_pos h137] at H
              refine at_cond_t rfl (decide_eq_true h137) ?_
              refine at_ops [0, 1, 2, 3, 4, 5, 6, 7, 8, 9, 10] rfl ?_
              obtain ⟨A138, c139, hd140⟩ := ho110.at z_impl_seen (IntKind.i64.wrap ((x106.length : Int) - 1)) h130 h131
              have hc141 := hd140.cells
              have hi142 : OwnIn (Kd.int .i64) 2 J124 A138 c139 ((rdA z_impl_seen x106 (IntKind.i64.wrap ((x106.length : Int) - 1))).cell.Points) s109 := hd140.inn
              refine at_seg [0, 1, 2, 3, 4, 5] [6, 7, 8, 9, 10] rfl [(4, .slice A138 ((rdA z_impl_seen x106 (IntKind.i64.wrap ((x106.length : Int) - 1))).cell.Points).length c139)] [0, 2, 15, 16, 17, 47, 51, 52] (L2 := [(0, .pointer (some ⟨g65, 0, none⟩)), (2, .int .i64 p76), (15, .slice A98 b5.length c99), (16, .int .i64 (b5.length : Int)), (17, .int .i64 x102), (47, .pointer (some (((A107.getD ad0).add ((IntKind.i64.wrap ((x106.length : Int) - 1)).toNat * 4)).add 0))), (51, .slice A138 ((rdA z_impl_seen x106 (IntKind.i64.wrap ((x106.length : Int) - 1))).cell.Points).length c139), (52, .int .i64 (rdA 0 b5 x102))]) (obs := [fun w => w.cell? ((((A107.getD ad0).add ((IntKind.i64.wrap ((x106.length : Int) - 1)).toNat * 4)).add 0).add 0) = some (.slice A138 ((rdA z_impl_seen x106 (IntKind.i64.wrap ((x106.length : Int) - 1))).cell.Points).length c139)]) (by kernel_rfl) ?_ ?_
              · intro w hs; exact (by rw [add_add']; exact hc141 0 _ rfl hs (k := 2) rfl)
              refine at_eff rfl rfl ?_
              refine eff_buildSlice (e := 2) (cells := #[.int .i64 (rdA 0 b5 x102)]) ([rdA 0 b5 x102] : List Int).length rfl rfl rfl (by kernel_rfl) (fun g143 => ?_)
              have ho144 := own_lit (K := (Kd.int .i64)) (e := 2) (I := J124) (xs := ([rdA 0 b5 x102] : List Int)) (css := [[.int .i64 (rdA 0 b5 x102)]]) (cells := #[.int .i64 (rdA 0 b5 x102)]) (b := g143) ⟨rfl, trivial⟩ rfl
              refine at_eff rfl rfl ?_
              refine at_focus (D := d_impl_seen) 3 hd140 rfl (fun s145 s147 ho146 hh148 => ?_)
              replace ho146 : Own (Kd.int .i64) 2 J124 A138 c139 ((rdA z_impl_seen x106 (IntKind.i64.wrap ((x106.length : Int) - 1))).cell.Points) s145 := ho146
              obtain ⟨h149, H⟩ := ite_some H
              obtain ⟨i_, hi_, hz_, hs_, hb_⟩ := info2
              refine eff_append (K := (Kd.int .i64)) (xs := (rdA z_impl_seen x106 (IntKind.i64.wrap ((x106.length : Int) - 1))).cell.Points) (ys := ([rdA 0 b5 x102] : List Int)) 0 rfl rfl rfl rfl rfl und23 und23 hi_ hz_ hs_ rfl rfl rfl ho146 rfl (fun w hs => ho144.rowAt (k := 1) hs rfl) (by rw [hb_]; omega) (by omega) (fun A150 c151 s152 ho153 => ?_)
              refine at_seg [8, 9] [10] rfl [] [0, 2, 15, 16, 17, 54, 56] (L2 := [(0, .pointer (some ⟨g65, 0, none⟩)), (2, .int .i64 p76), (15, .slice A98 b5.length c99), (16, .int .i64 (b5.length : Int)), (17, .int .i64 x102), (54, .slice A150 ((rdA z_impl_seen x106 (IntKind.i64.wrap ((x106.length : Int) - 1))).cell.Points ++ ([rdA 0 b5 x102] : List Int)).length c151), (56, .pointer (some ((((A107.getD ad0).add ((IntKind.i64.wrap ((x106.length : Int) - 1)).toNat * 4)).add 0).add 0)))]) (obs := []) (by kernel_rfl) ?_ ?_
              · intro w hs; exact trivial
              refine at_eff rfl rfl ?_
              refine eff_storeHole (D := d_impl_seen) (u := (⟨(⟨((rdA z_impl_seen x106 (IntKind.i64.wrap ((x106.length : Int) - 1))).cell.Points ++ ([rdA 0 b5 x102] : List Int)), (rdA z_impl_seen x106 (IntKind.i64.wrap ((x106.length : Int) - 1))).cell.Attr⟩ : T_impl_Cell), (rdA z_impl_seen x106 (IntKind.i64.wrap ((x106.length : Int) - 1))).row, (rdA z_impl_seen x106 (IntKind.i64.wrap ((x106.length : Int) - 1))).col⟩ : T_impl_seen)) 3 0 0 rfl rfl rfl rfl hh148 rfl rfl (by rw [add_add'] <;> rfl) rfl (Nat.le_of_ble_eq_true (by kernel_rfl)) rfl rfl ho153 (fun s154 hd155 => ?_)
              have he156 : rdA z_impl_seen (x106.set (IntKind.i64.wrap ((x106.length : Int) - 1)).toNat (⟨(⟨((rdA z_impl_seen x106 (IntKind.i64.wrap ((x106.length : Int) - 1))).cell.Points ++ ([rdA 0 b5 x102] : List Int)), (rdA z_impl_seen x106 (IntKind.i64.wrap ((x106.length : Int) - 1))).cell.Attr⟩ : T_impl_Cell), (rdA z_impl_seen x106 (IntKind.i64.wrap ((x106.length : Int) - 1))).row, (rdA z_impl_seen x106 (IntKind.i64.wrap ((x106.length : Int) - 1))).col⟩ : T_impl_seen)) (IntKind.i64.wrap ((x106.length : Int) - 1)) = (⟨(⟨((rdA z_impl_seen x106 (IntKind.i64.wrap ((x106.length : Int) - 1))).cell.Points ++ ([rdA 0 b5 x102] : List Int)), (rdA z_impl_seen x106 (IntKind.i64.wrap ((x106.length : Int) - 1))).cell.Attr⟩ : T_impl_Cell), (rdA z_impl_seen x106 (IntKind.i64.wrap ((x106.length : Int) - 1))).row, (rdA z_impl_seen x106 (IntKind.i64.wrap ((x106.length : Int) - 1))).col⟩ : T_impl_seen) := rdA_set _ _ h130 h131
              have hd157 : DOwn d_impl_seen 74 J124 A107 c108 (x106.set (IntKind.i64.wrap ((x106.length : Int) - 1)).toNat (⟨(⟨((rdA z_impl_seen x106 (IntKind.i64.wrap ((x106.length : Int) - 1))).cell.Points ++ ([rdA 0 b5 x102] : List Int)), (rdA z_impl_seen x106 (IntKind.i64.wrap ((x106.length : Int) - 1))).cell.Attr⟩ : T_impl_Cell), (rdA z_impl_seen x106 (IntKind.i64.wrap ((x106.length : Int) - 1))).row, (rdA z_impl_seen x106 (IntKind.i64.wrap ((x106.length : Int) - 1))).col⟩ : T_impl_seen)) s154 := hd155.own
              have hi158 : OwnIn (Kd.int .i64) 2 J124 A150 c151 ((rdA z_impl_seen x106 (IntKind.i64.wrap ((x106.length : Int) - 1))).cell.Points ++ ([rdA 0 b5 x102] : List Int)) s154 := by have h_ := hd155.inn; rw [he156] at h_; exact h_
              refine at_keep [0, 2, 15, 16, 17, 56] (L2 := [(0, .pointer (some ⟨g65, 0, none⟩)), (2, .int .i64 p76), (15, .slice A98 b5.length c99), (16, .int .i64 (b5.length : Int)), (17, .int .i64 x102), (56, .pointer (some ((((A107.getD ad0).add ((IntKind.i64.wrap ((x106.length : Int) - 1)).toNat * 4)).add 0).add 0)))]) rfl ?_
              refine at_eqM (M1 := ([(g143, .cells #[.int .i64 (rdA 0 b5 x102)] 2 (0, 0))] :: [(g65, .cells #[.int .i64 x103, .int .i64 x104, .int .i64 x105, .slice A107 x106.length c108, .bool x111, .slice A113 x112.length c114] 63 (0, 0))] :: s100 :: s154 :: s115 :: Fs)) (M2 := ([(g143, .cells #[.int .i64 (rdA 0 b5 x102)] 2 (0, 0))] :: [(g65, .cells #[.int .i64 x103, .int .i64 x104, .int .i64 x105, .slice A107 (x106.set (IntKind.i64.wrap ((x106.length : Int) - 1)).toNat (⟨(⟨((rdA z_impl_seen x106 (IntKind.i64.wrap ((x106.length : Int) - 1))).cell.Points ++ ([rdA 0 b5 x102] : List Int)), (rdA z_impl_seen x106 (IntKind.i64.wrap ((x106.length : Int) - 1))).cell.Attr⟩ : T_impl_Cell), (rdA z_impl_seen x106 (IntKind.i64.wrap ((x106.length : Int) - 1))).row, (rdA z_impl_seen x106 (IntKind.i64.wrap ((x106.length : Int) - 1))).col⟩ : T_impl_seen)).length c108, .bool x111, .slice A113 x112.length c114] 63 (0, 0))] :: s100 :: s154 :: s115 :: Fs)) rfl (by simp only [List.length_set]) ?_
              refine at_end ?_
              refine at_thn ?_
              refine at_exit ?_
              refine at_then_exit ?_
              refine at_in_hit ?_
              refine at_thn ?_
              refine at_reg [] [0, 2, 15, 16, 17] (L2 := [(0, .pointer (some ⟨g65, 0, none⟩)), (2, .int .i64 p76), (15, .slice A98 b5.length c99), (16, .int .i64 (b5.length : Int)), (17, .int .i64 (IntKind.i64.wrap (x102 + 1)))]) (obs := []) (by kernel_rfl) ?_ ?_
              · intro w hs; exact trivial
              refine at_thn ?_
              refine at_drop (k := 0) rfl rfl ?_
              refine at_eqM (M1 := ([(g65, .cells #[.int .i64 x103, .int .i64 x104, .int .i64 x105, .slice A107 (x106.set (IntKind.i64.wrap ((x106.length : Int) - 1)).toNat (⟨(⟨((rdA z_impl_seen x106 (IntKind.i64.wrap ((x106.length : Int) - 1))).cell.Points ++ ([rdA 0 b5 x102] : List Int)), (rdA z_impl_seen x106 (IntKind.i64.wrap ((x106.length : Int) - 1))).cell.Attr⟩ : T_impl_Cell), (rdA z_impl_seen x106 (IntKind.i64.wrap ((x106.length : Int) - 1))).row, (rdA z_impl_seen x106 (IntKind.i64.wrap ((x106.length : Int) - 1))).col⟩ : T_impl_seen)).length c108, .bool x111, .slice A113 x112.length c114] 63 (0, 0))] :: s100 :: s154 :: s115 :: Fs)) (M2 := ([(g65, .cells #[.int .i64 x103, .int .i64 x104, .int .i64 x105, .slice A107 (x106.set (IntKind.i64.wrap ((x106.length : Int) - 1)).toNat (⟨(⟨((rdA z_impl_seen x106 (IntKind.i64.wrap ((x106.length : Int) - 1))).cell.Points ++ ([rdA 0 b5 x102] : List Int)), (rdA z_impl_seen x106 (IntKind.i64.wrap ((x106.length : Int) - 1))).cell.Attr⟩ : T_impl_Cell), (rdA z_impl_seen x106 (IntKind.i64.wrap ((x106.length : Int) - 1))).row, (rdA z_impl_seen x106 (IntKind.i64.wrap ((x106.length : Int) - 1))).col⟩ : T_impl_seen)).length c108, .bool x111, .slice A113 x112.length c114] 63 (0, 0))] :: s100 :: s154 :: s115 :: Fs)) rfl rfl ?_
              refine at_keep [0, 2, 15, 16, 17] (L2 := [(0, .pointer (some ⟨g65, 0, none⟩)), (2, .int .i64 p76), (15, .slice A98 b5.length c99), (16, .int .i64 (b5.length : Int)), (17, .int .i64 (IntKind.i64.wrap (x102 + 1)))]) rfl ?_
              exact ih118 _ (by omega) _ _ _ ⟨IntKind.i64.wrap (x102 + 1), x103, x104, x105, x106.set (IntKind.i64.wrap ((x106.length : Int) - 1)).toNat (⟨(⟨((rdA z_impl_seen x106 (IntKind.i64.wrap ((x106.length : Int) - 1))).cell.Points ++ ([rdA 0 b5 x102] : List Int)), (rdA z_impl_seen x106 (IntKind.i64.wrap ((x106.length : Int) - 1))).cell.Attr⟩ : T_impl_Cell), (rdA z_impl_seen x106 (IntKind.i64.wrap ((x106.length : Int) - 1))).row, (rdA z_impl_seen x106 (IntKind.i64.wrap ((x106.length : Int) - 1))).col⟩ : T_impl_seen), A107, c108, s154, x111, x112, A113, c114, s115, rfl, rfl, H, hle, by omega, ho101, hd157, ho116⟩
            · rw [if_neg h137] at H
              refine at_cond_f rfl (decide_eq_false h137) ?_
              refine at_skip ?_
              refine at_thn ?_
              refine at_exit ?_
              refine at_then_exit ?_
              refine at_in_hit ?_
              refine at_thn ?_
              refine at_reg [] [0, 2, 15, 16, 17] (L2 := [(0, .pointer (some ⟨g65, 0, none⟩)), (2, .int .i64 p76), (15, .slice A98 b5.length c99), (16, .int .i64 (b5.length : Int)), (17, .int .i64 (IntKind.i64.wrap (x102 + 1)))]) (obs := []) (by kernel_rfl) ?_ ?_
              · intro w hs; exact trivial
              refine at_thn ?_
              refine at_keep [0, 2, 15, 16, 17] (L2 := [(0, .pointer (some ⟨g65, 0, none⟩)), (2, .int .i64 p76), (15, .slice A98 b5.length c99), (16, .int .i64 (b5.length : Int)), (17, .int .i64 (IntKind.i64.wrap (x102 + 1)))]) rfl ?_
              exact ih118 _ (by omega) _ _ _ ⟨IntKind.i64.wrap (x102 + 1), x103, x104, x105, x106, A107, c108, s109, x111, x112, A113, c114, s115, rfl, rfl, H, hle, by omega, ho101, ho110, ho116⟩
          · rw [if_neg h129] at H
            refine at_cond_f rfl (ff_of h129) ?_
            refine at_skip ?_
            refine at_thn ?_
            refine at_exit ?_
            refine at_then_exit ?_
            refine at_in_hit ?_
            refine at_thn ?_
            refine at_reg [] [0, 2, 15, 16, 17] (L2 := [(0, .pointer (some ⟨g65, 0, none⟩)), (2, .int .i64 p76), (15, .slice A98 b5.length c99), (16, .int .i64 (b5.length : Int)), (17, .int .i64 (IntKind.i64.wrap (x102 + 1)))]) (obs := []) (by kernel_rfl) ?_ ?_
            · intro w hs; exact trivial
            refine at_thn ?_
            refine at_keep [0, 2, 15, 16, 17] (L2 := [(0, .pointer (some ⟨g65, 0, none⟩)), (2, .int .i64 p76), (15, .slice A98 b5.length c99), (16, .int .i64 (b5.length : Int)), (17, .int .i64 (IntKind.i64.wrap (x102 + 1)))]) rfl ?_
            exact ih118 _ (by omega) _ _ _ ⟨IntKind.i64.wrap (x102 + 1), x103, x104, x105, x106, A107, c108, s109, x111, x112, A113, c114, s115, rfl, rfl, H, hle, by omega, ho101, ho110, ho116⟩
        · rw [if_neg h128] at H
          refine at_cond_f rfl (beq_eq_false_iff_ne.2 h128) ?_
          refine at_skip ?_
          refine at_thn ?_
          refine at_seq ?_
          refine at_seq ?_
          refine at_regd hmo [(3, .int .i64 x103), (7, .int .i64 x105)] [0, 2, 7, 8, 15, 16, 17, 67] (by kernel_rfl) (L2 := [(0, .pointer (some ⟨g65, 0, none⟩)), (2, .int .i64 p76), (7, .int .i64 (rdA 0 b5 x102)), (8, .int .i64 b6), (15, .slice A98 b5.length c99), (16, .int .i64 (b5.length : Int)), (17, .int .i64 x102), (67, .bool (decide ((IntKind.i64.wrap (x103 - x105)) < b6)))]) (obs := [fun w => w.cell? ⟨g65, 0, none⟩ = some (.int .i64 x103), fun w => w.cell? ⟨g65, 2, none⟩ = some (.int .i64 x105)]) (by kernel_rfl) ?_ ?_
          · intro w hs; exact ⟨hs.var (k := 0) rfl 0 rfl, hs.var (k := 0) rfl 2 rfl⟩
          refine at_thn ?_
          by_cases h159 : (IntKind.i64.wrap (x103 - x105)) < b6
          · rw [if_pos h159] at H
            refine at_cond_t rfl (decide_eq_true h159) ?_
            refine at_ops [0, 1] rfl ?_
            refine at_seg [0] [1] rfl [] [0, 2, 7, 8, 15, 16, 17, 68] (L2 := [(0, .pointer (some ⟨g65, 0, none⟩)), (2, .int .i64 p76), (7, .int .i64 (rdA 0 b5 x102)), (8, .int .i64 b6), (15, .slice A98 b5.length c99), (16, .int .i64 (b5.length : Int)), (17, .int .i64 x102), (68, .pointer (some ⟨g65, 0, none⟩))]) (obs := []) (by kernel_rfl) ?_ ?_
            · intro w hs; exact trivial
            refine at_eff rfl rfl ?_
            obtain ⟨b7, H160, H⟩ := bind_some H
            refine eff_call rfl rfl ok64 rfl rfl (show Meets Try.prog 64 ([.pointer (some ⟨g65, 0, none⟩)] : List Value).toArray _ [[(g65, .cells #[.int .i64 x103, .int .i64 x104, .int .i64 x105, .slice A107 x106.length c108, .bool x111, .slice A113 x112.length c114] 63 (0, 0))], s109, s115] _ from impl_layout_next.calls H160 ho110 ho116) (Mr := (s100 :: Fs)) (((perm_at (k := 1) rfl).trans (((perm_at (k := 1) rfl).trans ((List.Perm.refl _).cons _)).cons _)).cons _) (fun v161 J162 M163 hq164 hJ165 => ?_)
            replace hle := hle.trans hJ165
            replace ho101 := ho101.mono hJ165
            replace ho110 := ho110.mono hJ165
            replace ho116 := ho116.mono hJ165
            obtain ⟨A166, c167, s168, A170, c171, s172, rfl, rfl, ho169, ho173⟩ := hq164
            refine at_end ?_
            refine at_thn ?_
            refine at_seq ?_
            refine at_x hmo (fun w => w.cell? ⟨g65, 3, none⟩ = some (.slice A166 b7.cells.length c167) ∧ w.cell? ⟨g65, 1, none⟩ = some (.int .i64 b7.row) ∧ w.cell? ⟨g65, 2, none⟩ = some (.int .i64 b7.col)) [19, 22] ?_
            refine at_xseg [0, 1, 2, 3, 4, 5, 7, 9, 10, 11, 12, 13, 14, 15, 16] 8 (#[true, true, true, true, true, true, false, true, false, true, true, true, true, true, true, true, true, false, false, false, false, false, false]) rfl (by kernel_rfl) [(4, .slice A166 b7.cells.length c167), (12, .int .i64 b7.row), (16, .int .i64 b7.col)] [0, 2, 8, 15, 16, 17, 70, 74, 75, 77, 82, 86] (L2 := [(0, .pointer (some ⟨g65, 0, none⟩)), (2, .int .i64 p76), (8, .int .i64 b6), (15, .slice A98 b5.length c99), (16, .int .i64 (b5.length : Int)), (17, .int .i64 x102), (70, .pointer (some ⟨g65, 0, none⟩)), (74, .slice A166 b7.cells.length c167), (75, .int .i64 (rdA 0 b5 x102)), (77, .int .i64 p76), (82, .int .i64 b7.row), (86, .int .i64 b7.col)]) (obs := [fun w => w.cell? ⟨g65, 3, none⟩ = some (.slice A166 b7.cells.length c167), fun w => w.cell? ⟨g65, 1, none⟩ = some (.int .i64 b7.row), fun w => w.cell? ⟨g65, 2, none⟩ = some (.int .i64 b7.col)]) (by kernel_rfl) (by kernel_rfl) (by kernel_rfl) (.inr fun w hs => ⟨hs.var (k := 0) rfl 3 rfl, hs.var (k := 0) rfl 1 rfl, hs.var (k := 0) rfl 2 rfl⟩) (fun w hS => ⟨hS.1, hS.2.1, hS.2.2⟩) (fun w hs => ⟨hs.var (k := 0) rfl 3 rfl, hs.var (k := 0) rfl 1 rfl, hs.var (k := 0) rfl 2 rfl⟩) ?_
            refine at_x1 7 6 (#[true, true, true, true, true, true, true, true, false, true, true, true, true, true, true, true, true, false, false, false, false, false, false]) rfl (by kernel_rfl) (by kernel_rfl) rfl rfl ?_
            refine eff_buildSlice (e := 2) (cells := #[.int .i64 (rdA 0 b5 x102)]) ([rdA 0 b5 x102] : List Int).length rfl rfl rfl (by kernel_rfl) (fun g174 => ?_)
            have ho175 := own_lit (K := (Kd.int .i64)) (e := 2) (I := J162) (xs := ([rdA 0 b5 x102] : List Int)) (css := [[.int .i64 (rdA 0 b5 x102)]]) (cells := #[.int .i64 (rdA 0 b5 x102)]) (b := g174) ⟨rfl, trivial⟩ rfl
            refine at_xS (fun w hs => ⟨hs.var (k := 1) rfl 3 rfl, hs.var (k := 1) rfl 1 rfl, hs.var (k := 1) rfl 2 rfl⟩) ?_
            refine at_xseg [8, 17] 5 (#[true, true, true, true, true, true, true, true, true, true, true, true, true, true, true, true, true, true, false, false, false, false, false]) rfl (by kernel_rfl) [] [0, 2, 8, 15, 16, 17, 70, 74, 87] (L2 := [(0, .pointer (some ⟨g65, 0, none⟩)), (2, .int .i64 p76), (8, .int .i64 b6), (15, .slice A98 b5.length c99), (16, .int .i64 (b5.length : Int)), (17, .int .i64 x102), (70, .pointer (some ⟨g65, 0, none⟩)), (74, .slice A166 b7.cells.length c167), (87, .agg #[.slice (some ⟨g174, 0, none⟩ : Option Addr) ([rdA 0 b5 x102] : List Int).length (([rdA 0 b5 x102] : List Int).length), .int .i64 p76, .int .i64 b7.row, .int .i64 b7.col])]) (obs := []) (by kernel_rfl) (by kernel_rfl) (by kernel_rfl) (.inr fun w hs => ⟨hs.var (k := 1) rfl 3 rfl, hs.var (k := 1) rfl 1 rfl, hs.var (k := 1) rfl 2 rfl⟩) (fun w hS => trivial) (fun w hs => trivial) ?_
            refine at_x1 4 18 (#[true, true, true, true, true, true, true, true, true, true, true, true, true, true, true, true, true, true, true, false, false, false, false]) rfl (by kernel_rfl) (by kernel_rfl) rfl rfl ?_
            refine eff_buildSlice (e := 74) (cells := #[.slice (some ⟨g174, 0, none⟩ : Option Addr) ([rdA 0 b5 x102] : List Int).length (([rdA 0 b5 x102] : List Int).length), .int .i64 p76, .int .i64 b7.row, .int .i64 b7.col]) ([(⟨(⟨([rdA 0 b5 x102] : List Int), p76⟩ : T_impl_Cell), b7.row, b7.col⟩ : T_impl_seen)] : List T_impl_seen).length rfl rfl rfl (by kernel_rfl) (fun g176 => ?_)
            have hd177 := own_lit (K := Kd.raw 4) (e := 74) (I := J162) (xs := ([[.slice (some ⟨g174, 0, none⟩ : Option Addr) ([rdA 0 b5 x102] : List Int).length (([rdA 0 b5 x102] : List Int).length), .int .i64 p76, .int .i64 b7.row, .int .i64 b7.col]] : List (List Value))) (css := ([[.slice (some ⟨g174, 0, none⟩ : Option Addr) ([rdA 0 b5 x102] : List Int).length (([rdA 0 b5 x102] : List Int).length), .int .i64 p76, .int .i64 b7.row, .int .i64 b7.col]] : List (List Value))) (cells := #[.slice (some ⟨g174, 0, none⟩ : Option Addr) ([rdA 0 b5 x102] : List Int).length (([rdA 0 b5 x102] : List Int).length), .int .i64 p76, .int .i64 b7.row, .int .i64 b7.col]) (b := g176) ⟨⟨rfl, rfl, rfl⟩, trivial⟩ rfl
            refine at_merge 1 0 rfl rfl rfl ?_
            replace hd177 : DOwn d_impl_seen 74 J162 (some ⟨g176, 0, none⟩ : Option Addr) (([(⟨(⟨([rdA 0 b5 x102] : List Int), p76⟩ : T_impl_Cell), b7.row, b7.col⟩ : T_impl_seen)] : List T_impl_seen).length) ([(⟨(⟨([rdA 0 b5 x102] : List Int), p76⟩ : T_impl_Cell), b7.row, b7.col⟩ : T_impl_seen)] : List T_impl_seen) ([(g174, .cells #[.int .i64 (rdA 0 b5 x102)] 2 (0, 0))] ++ [(g176, .cells #[.slice (some ⟨g174, 0, none⟩ : Option Addr) ([rdA 0 b5 x102] : List Int).length (([rdA 0 b5 x102] : List Int).length), .int .i64 p76, .int .i64 b7.row, .int .i64 b7.col] 74 (0, 0))]) := DOwn.lit (hs := [[.slice (some ⟨g174, 0, none⟩ : Option Addr) ([rdA 0 b5 x102] : List Int).length (([rdA 0 b5 x102] : List Int).length), .int .i64 p76, .int .i64 b7.row, .int .i64 b7.col]]) (sis := [[(g174, .cells #[.int .i64 (rdA 0 b5 x102)] 2 (0, 0))]]) hd177 ⟨⟨_, _, rfl, ho175⟩, trivial⟩ (perm_lit1 _ _)
            refine at_xS (fun w hs => ⟨hs.var (k := 1) rfl 3 rfl, hs.var (k := 1) rfl 1 rfl, hs.var (k := 1) rfl 2 rfl⟩) ?_
            refine at_x1 3 19 (#[true, true, true, true, true, true, true, true, true, true, true, true, true, true, true, true, true, true, true, true, false, false, false]) rfl (by kernel_rfl) (by kernel_rfl) rfl rfl ?_
            obtain ⟨h178, H⟩ := ite_some H
            obtain ⟨i_, hi_, hz_, hs_, hb_⟩ := info74
            refine eff_appendD (D := d_impl_seen) (xs := b7.cells) (ys := ([(⟨(⟨([rdA 0 b5 x102] : List Int), p76⟩ : T_impl_Cell), b7.row, b7.col⟩ : T_impl_seen)] : List T_impl_seen)) 1 0 rfl rfl rfl rfl rfl und61 und61 hi_ hz_ hs_ rfl rfl rfl ho169 hd177 rfl rfl (by rw [hb_]; omega) (by omega) (fun A179 c180 s181 hd182 => ?_)
            refine at_xX (by kernel_rfl) ?_
            refine at_xseg [20, 21] 1 (#[true, true, true, true, true, true, true, true, true, true, true, true, true, true, true, true, true, true, true, true, true, true, false]) rfl (by kernel_rfl) [] [0, 2, 8, 15, 16, 17, 89, 91] (L2 := [(0, .pointer (some ⟨g65, 0, none⟩)), (2, .int .i64 p76), (8, .int .i64 b6), (15, .slice A98 b5.length c99), (16, .int .i64 (b5.length : Int)), (17, .int .i64 x102), (89, .slice A179 (b7.cells ++ ([(⟨(⟨([rdA 0 b5 x102] : List Int), p76⟩ : T_impl_Cell), b7.row, b7.col⟩ : T_impl_seen)] : List T_impl_seen)).length c180), (91, .pointer (some ⟨g65, 3, none⟩))]) (obs := []) (by kernel_rfl) (by kernel_rfl) (by kernel_rfl) (.inl (by kernel_rfl)) (fun w hS => trivial) (fun w hs => trivial) ?_
            refine at_x1 0 22 (#[true, true, true, true, true, true, true, true, true, true, true, true, true, true, true, true, true, true, true, true, true, true, true]) rfl (by kernel_rfl) (by kernel_rfl) rfl rfl ?_
            refine eff_store 0 rfl rfl rfl rfl rfl rfl (.inl (Nat.le_refl _)) rfl (Nat.le_of_ble_eq_true (by kernel_rfl)) rfl ?_
            refine at_eqM (M1 := ([(g65, .cells #[.int .i64 b7.cols, .int .i64 b7.row, .int .i64 b7.col, .slice A179 (b7.cells ++ ([(⟨(⟨([rdA 0 b5 x102] : List Int), p76⟩ : T_impl_Cell), b7.row, b7.col⟩ : T_impl_seen)] : List T_impl_seen)).length c180, .bool b7.inRow, .slice A170 b7.spots.length c171] 63 (0, 0))] :: s181 :: s172 :: s100 :: Fs)) (M2 := ([(g65, .cells #[.int .i64 b7.cols, .int .i64 b7.row, .int .i64 b7.col, .slice A179 (b7.cells ++ ([(⟨(⟨([rdA 0 b5 x102] : List Int), p76⟩ : T_impl_Cell), b7.row, b7.col⟩ : T_impl_seen)] : List T_impl_seen)).length c180, .bool b7.inRow, .slice A170 b7.spots.length c171] 63 (0, 0))] :: s181 :: s172 :: s100 :: Fs)) rfl rfl ?_
            refine at_xX (by kernel_rfl) ?_
            refine at_xend (by kernel_rfl) ?_
            refine at_thn ?_
            refine at_seq ?_
            refine at_ops [0, 1, 2, 3, 4, 5, 6, 7, 8] rfl ?_
            refine at_seg [0, 1, 2, 3, 4, 5, 6, 7] [8] rfl [(3, .int .i64 b7.col)] [0, 2, 15, 16, 17, 97, 99] (L2 := [(0, .pointer (some ⟨g65, 0, none⟩)), (2, .int .i64 p76), (15, .slice A98 b5.length c99), (16, .int .i64 (b5.length : Int)), (17, .int .i64 x102), (97, .int .i64 (IntKind.i64.wrap (b7.col + b6))), (99, .pointer (some ⟨g65, 2, none⟩))]) (obs := [fun w => w.cell? ⟨g65, 2, none⟩ = some (.int .i64 b7.col)]) (by kernel_rfl) ?_ ?_
            · intro w hs; exact hs.var (k := 0) rfl 2 rfl
            refine at_eff rfl rfl ?_
            refine eff_store 0 rfl rfl rfl rfl rfl rfl (.inl (Nat.le_refl _)) rfl (Nat.le_of_ble_eq_true (by kernel_rfl)) rfl ?_
            refine at_eqM (M1 := ([(g65, .cells #[.int .i64 b7.cols, .int .i64 b7.row, .int .i64 (IntKind.i64.wrap (b7.col + b6)), .slice A179 (b7.cells ++ ([(⟨(⟨([rdA 0 b5 x102] : List Int), p76⟩ : T_impl_Cell), b7.row, b7.col⟩ : T_impl_seen)] : List T_impl_seen)).length c180, .bool b7.inRow, .slice A170 b7.spots.length c171] 63 (0, 0))] :: s181 :: s172 :: s100 :: Fs)) (M2 := ([(g65, .cells #[.int .i64 b7.cols, .int .i64 b7.row, .int .i64 (IntKind.i64.wrap (b7.col + b6)), .slice A179 (b7.cells ++ ([(⟨(⟨([rdA 0 b5 x102] : List Int), p76⟩ : T_impl_Cell), b7.row, b7.col⟩ : T_impl_seen)] : List T_impl_seen)).length c180, .bool b7.inRow, .slice A170 b7.spots.length c171] 63 (0, 0))] :: s181 :: s172 :: s100 :: Fs)) rfl rfl ?_
            refine at_end ?_
            refine at_thn ?_
            refine at_ops [0, 1, 2, 3] rfl ?_
            refine at_seg [0, 1, 2] [3] rfl [] [0, 2, 15, 16, 17, 102] (L2 := [(0, .pointer (some ⟨g65, 0, none⟩)), (2, .int .i64 p76), (15, .slice A98 b5.length c99), (16, .int .i64 (b5.length : Int)), (17, .int .i64 x102), (102, .pointer (some ⟨g65, 4, none⟩))]) (obs := []) (by kernel_rfl) ?_ ?_
            · intro w hs; exact trivial
            refine at_eff rfl rfl ?_
            refine eff_store 0 rfl rfl rfl rfl rfl rfl (.inl (Nat.le_refl _)) rfl (Nat.le_of_ble_eq_true (by kernel_rfl)) rfl ?_
            refine at_eqM (M1 := ([(g65, .cells #[.int .i64 b7.cols, .int .i64 b7.row, .int .i64 (IntKind.i64.wrap (b7.col + b6)), .slice A179 (b7.cells ++ ([(⟨(⟨([rdA 0 b5 x102] : List Int), p76⟩ : T_impl_Cell), b7.row, b7.col⟩ : T_impl_seen)] : List T_impl_seen)).length c180, .bool true, .slice A170 b7.spots.length c171] 63 (0, 0))] :: s181 :: s172 :: s100 :: Fs)) (M2 := ([(g65, .cells #[.int .i64 b7.cols, .int .i64 b7.row, .int .i64 (IntKind.i64.wrap (b7.col + b6)), .slice A179 (b7.cells ++ ([(⟨(⟨([rdA 0 b5 x102] : List Int), p76⟩ : T_impl_Cell), b7.row, b7.col⟩ : T_impl_seen)] : List T_impl_seen)).length c180, .bool true, .slice A170 b7.spots.length c171] 63 (0, 0))] :: s181 :: s172 :: s100 :: Fs)) rfl rfl ?_
            refine at_end ?_
            refine at_in_norm ?_
            refine at_thn ?_
            refine at_reg [] [0, 2, 15, 16, 17] (L2 := [(0, .pointer (some ⟨g65, 0, none⟩)), (2, .int .i64 p76), (15, .slice A98 b5.length c99), (16, .int .i64 (b5.length : Int)), (17, .int .i64 (IntKind.i64.wrap (x102 + 1)))]) (obs := []) (by kernel_rfl) ?_ ?_
            · intro w hs; exact trivial
            refine at_thn ?_
            refine at_perm (((perm_at (k := 2) rfl).trans ((List.Perm.refl _).cons _)).cons _) ?_
            refine at_keep [0, 2, 15, 16, 17] (L2 := [(0, .pointer (some ⟨g65, 0, none⟩)), (2, .int .i64 p76), (15, .slice A98 b5.length c99), (16, .int .i64 (b5.length : Int)), (17, .int .i64 (IntKind.i64.wrap (x102 + 1)))]) rfl ?_
            exact ih118 _ (by omega) _ _ _ ⟨IntKind.i64.wrap (x102 + 1), b7.cols, b7.row, IntKind.i64.wrap (b7.col + b6), (b7.cells ++ ([(⟨(⟨([rdA 0 b5 x102] : List Int), p76⟩ : T_impl_Cell), b7.row, b7.col⟩ : T_impl_seen)] : List T_impl_seen)), A179, c180, s181, true, b7.spots, A170, c171, s172, rfl, rfl, H, hle, by omega, ho101, hd182, ho173⟩
          · rw [if_neg h159] at H
            refine at_cond_f rfl (decide_eq_false h159) ?_
            refine at_skip ?_
            refine at_thn ?_
            refine at_seq ?_
            refine at_x hmo (fun w => w.cell? ⟨g65, 3, none⟩ = some (.slice A107 x106.length c108) ∧ w.cell? ⟨g65, 1, none⟩ = some (.int .i64 x104) ∧ w.cell? ⟨g65, 2, none⟩ = some (.int .i64 x105)) [19, 22] ?_
            refine at_xseg [0, 1, 2, 3, 4, 5, 7, 9, 10, 11, 12, 13, 14, 15, 16] 8 (#[true, true, true, true, true, true, false, true, false, true, true, true, true, true, true, true, true, false, false, false, false, false, false]) rfl (by kernel_rfl) [(4, .slice A107 x106.length c108), (12, .int .i64 x104), (16, .int .i64 x105)] [0, 2, 8, 15, 16, 17, 70, 74, 75, 77, 82, 86] (L2 := [(0, .pointer (some ⟨g65, 0, none⟩)), (2, .int .i64 p76), (8, .int .i64 b6), (15, .slice A98 b5.length c99), (16, .int .i64 (b5.length : Int)), (17, .int .i64 x102), (70, .pointer (some ⟨g65, 0, none⟩)), (74, .slice A107 x106.length c108), (75, .int .i64 (rdA 0 b5 x102)), (77, .int .i64 p76), (82, .int .i64 x104), (86, .int .i64 x105)]) (obs := [fun w => w.cell? ⟨g65, 3, none⟩ = some (.slice A107 x106.length c108), fun w => w.cell? ⟨g65, 1, none⟩ = some (.int .i64 x104), fun w => w.cell? ⟨g65, 2, none⟩ = some (.int .i64 x105)]) (by kernel_rfl) (by kernel_rfl) (by kernel_rfl) (.inr fun w hs => ⟨hs.var (k := 0) rfl 3 rfl, hs.var (k := 0) rfl 1 rfl, hs.var (k := 0) rfl 2 rfl⟩) (fun w hS => ⟨hS.1, hS.2.1, hS.2.2⟩) (fun w hs => ⟨hs.var (k := 0) rfl 3 rfl, hs.var (k := 0) rfl 1 rfl, hs.var (k := 0) rfl 2 rfl⟩) ?_
            refine at_x1 7 6 (#[true, true, true, true, true, true, true, true, false, true, true, true, true, true, true, true, true, false, false, false, false, false, false]) rfl (by kernel_rfl) (by kernel_rfl) rfl rfl ?_
            refine eff_buildSlice (e := 2) (cells := #[.int .i64 (rdA 0 b5 x102)]) ([rdA 0 b5 x102] : List Int).length rfl rfl rfl (by kernel_rfl) (fun g183 => ?_)
            have ho184 := own_lit (K := (Kd.int .i64)) (e := 2) (I := J124) (xs := ([rdA 0 b5 x102] : List Int)) (css := [[.int .i64 (rdA 0 b5 x102)]]) (cells := #[.int .i64 (rdA 0 b5 x102)]) (b := g183) ⟨rfl, trivial⟩ rfl
            refine at_xS (fun w hs => ⟨hs.var (k := 1) rfl 3 rfl, hs.var (k := 1) rfl 1 rfl, hs.var (k := 1) rfl 2 rfl⟩) ?_
            refine at_xseg [8, 17] 5 (#[true, true, true, true, true, true, true, true, true, true, true, true, true, true, true, true, true, true, false, false, false, false, false]) rfl (by kernel_rfl) [] [0, 2, 8, 15, 16, 17, 70, 74, 87] (L2 := [(0, .pointer (some ⟨g65, 0, none⟩)), (2, .int .i64 p76), (8, .int .i64 b6), (15, .slice A98 b5.length c99), (16, .int .i64 (b5.length : Int)), (17, .int .i64 x102), (70, .pointer (some ⟨g65, 0, none⟩)), (74, .slice A107 x106.length c108), (87, .agg #[.slice (some ⟨g183, 0, none⟩ : Option Addr) ([rdA 0 b5 x102] : List Int).length (([rdA 0 b5 x102] : List Int).length), .int .i64 p76, .int .i64 x104, .int .i64 x105])]) (obs := []) (by kernel_rfl) (by kernel_rfl) (by kernel_rfl) (.inr fun w hs => ⟨hs.var (k := 1) rfl 3 rfl, hs.var (k := 1) rfl 1 rfl, hs.var (k := 1) rfl 2 rfl⟩) (fun w hS => trivial) (fun w hs => trivial) ?_
            refine at_x1 4 18 (#[true, true, true, true, true, true, true, true, true, true, true, true, true, true, true, true, true, true, true, false, false, false, false]) rfl (by kernel_rfl) (by kernel_rfl) rfl rfl ?_
            refine eff_buildSlice (e := 74) (cells := #[.slice (some ⟨g183, 0, none⟩ : Option Addr) ([rdA 0 b5 x102] : List Int).length (([rdA 0 b5 x102] : List Int).length), .int .i64 p76, .int .i64 x104, .int .i64 x105]) ([(⟨(⟨([rdA 0 b5 x102] : List Int), p76⟩ : T_impl_Cell), x104, x105⟩ : T_impl_seen)] : List T_impl_seen).length rfl rfl rfl (by kernel_rfl) (fun g185 => ?_)
            have hd186 := own_lit (K := Kd.raw 4) (e := 74) (I := J124) (xs := ([[.slice (some ⟨g183, 0, none⟩ : Option Addr) ([rdA 0 b5 x102] : List Int).length (([rdA 0 b5 x102] : List Int).length), .int .i64 p76, .int .i64 x104, .int .i64 x105]] : List (List Value))) (css := ([[.slice (some ⟨g183, 0, none⟩ : Option Addr) ([rdA 0 b5 x102] : List Int).length (([rdA 0 b5 x102] : List Int).length), .int .i64 p76, .int .i64 x104, .int .i64 x105]] : List (List Value))) (cells := #[.slice (some ⟨g183, 0, none⟩ : Option Addr) ([rdA 0 b5 x102] : List Int).length (([rdA 0 b5 x102] : List Int).length), .int .i64 p76, .int .i64 x104, .int .i64 x105]) (b := g185) ⟨⟨rfl, rfl, rfl⟩, trivial⟩ rfl
            refine at_merge 1 0 rfl rfl rfl ?_
            replace hd186 : DOwn d_impl_seen 74 J124 (some ⟨g185, 0, none⟩ : Option Addr) (([(⟨(⟨([rdA 0 b5 x102] : List Int), p76⟩ : T_impl_Cell), x104, x105⟩ : T_impl_seen)] : List T_impl_seen).length) ([(⟨(⟨([rdA 0 b5 x102] : List Int), p76⟩ : T_impl_Cell), x104, x105⟩ : T_impl_seen)] : List T_impl_seen) ([(g183, .cells #[.int .i64 (rdA 0 b5 x102)] 2 (0, 0))] ++ [(g185, .cells #[.slice (some ⟨g183, 0, none⟩ : Option Addr) ([rdA 0 b5 x102] : List Int).length (([rdA 0 b5 x102] : List Int).length), .int .i64 p76, .int .i64 x104, .int .i64 x105] 74 (0, 0))]) := DOwn.lit (hs := [[.slice (some ⟨g183, 0, none⟩ : Option Addr) ([rdA 0 b5 x102] : List Int).length (([rdA 0 b5 x102] : List Int).length), .int .i64 p76, .int .i64 x104, .int .i64 x105]]) (sis := [[(g183, .cells #[.int .i64 (rdA 0 b5 x102)] 2 (0, 0))]]) hd186 ⟨⟨_, _, rfl, ho184⟩, trivial⟩ (perm_lit1 _ _)
            refine at_xS (fun w hs => ⟨hs.var (k := 1) rfl 3 rfl, hs.var (k := 1) rfl 1 rfl, hs.var (k := 1) rfl 2 rfl⟩) ?_
            refine at_x1 3 19 (#[true, true, true, true, true, true, true, true, true, true, true, true, true, true, true, true, true, true, true, true, false, false, false]) rfl (by kernel_rfl) (by kernel_rfl) rfl rfl ?_
            obtain ⟨h187, H⟩ := ite_some H
            obtain ⟨i_, hi_, hz_, hs_, hb_⟩ := info74
            refine eff_appendD (D := d_impl_seen) (xs := x106) (ys := ([(⟨(⟨([rdA 0 b5 x102] : List Int), p76⟩ : T_impl_Cell), x104, x105⟩ : T_impl_seen)] : List T_impl_seen)) 2 0 rfl rfl rfl rfl rfl und61 und61 hi_ hz_ hs_ rfl rfl rfl ho110 hd186 rfl rfl (by rw [hb_]; omega) (by omega) (fun A188 c189 s190 hd191 => ?_)
            refine at_xX (by kernel_rfl) ?_
            refine at_xseg [20, 21] 1 (#[true, true, true, true, true, true, true, true, true, true, true, true, true, true, true, true, true, true, true, true, true, true, false]) rfl (by kernel_rfl) [] [0, 2, 8, 15, 16, 17, 89, 91] (L2 := [(0, .pointer (some ⟨g65, 0, none⟩)), (2, .int .i64 p76), (8, .int .i64 b6), (15, .slice A98 b5.length c99), (16, .int .i64 (b5.length : Int)), (17, .int .i64 x102), (89, .slice A188 (x106 ++ ([(⟨(⟨([rdA 0 b5 x102] : List Int), p76⟩ : T_impl_Cell), x104, x105⟩ : T_impl_seen)] : List T_impl_seen)).length c189), (91, .pointer (some ⟨g65, 3, none⟩))]) (obs := []) (by kernel_rfl) (by kernel_rfl) (by kernel_rfl) (.inl (by kernel_rfl)) (fun w hS => trivial) (fun w hs => trivial) ?_
            refine at_x1 0 22 (#[true, true, true, true, true, true, true, true, true, true, true, true, true, true, true, true, true, true, true, true, true, true, true]) rfl (by kernel_rfl) (by kernel_rfl) rfl rfl ?_
            refine eff_store 0 rfl rfl rfl rfl rfl rfl (.inl (Nat.le_refl _)) rfl (Nat.le_of_ble_eq_true (by kernel_rfl)) rfl ?_
            refine at_eqM (M1 := ([(g65, .cells #[.int .i64 x103, .int .i64 x104, .int .i64 x105, .slice A188 (x106 ++ ([(⟨(⟨([rdA 0 b5 x102] : List Int), p76⟩ : T_impl_Cell), x104, x105⟩ : T_impl_seen)] : List T_impl_seen)).length c189, .bool x111, .slice A113 x112.length c114] 63 (0, 0))] :: s100 :: s190 :: s115 :: Fs)) (M2 := ([(g65, .cells #[.int .i64 x103, .int .i64 x104, .int .i64 x105, .slice A188 (x106 ++ ([(⟨(⟨([rdA 0 b5 x102] : List Int), p76⟩ : T_impl_Cell), x104, x105⟩ : T_impl_seen)] : List T_impl_seen)).length c189, .bool x111, .slice A113 x112.length c114] 63 (0, 0))] :: s100 :: s190 :: s115 :: Fs)) rfl rfl ?_
            refine at_xX (by kernel_rfl) ?_
            refine at_xend (by kernel_rfl) ?_
            refine at_thn ?_
            refine at_seq ?_
            refine at_ops [0, 1, 2, 3, 4, 5, 6, 7, 8] rfl ?_
            refine at_seg [0, 1, 2, 3, 4, 5, 6, 7] [8] rfl [(3, .int .i64 x105)] [0, 2, 15, 16, 17, 97, 99] (L2 := [(0, .pointer (some ⟨g65, 0, none⟩)), (2, .int .i64 p76), (15, .slice A98 b5.length c99), (16, .int .i64 (b5.length : Int)), (17, .int .i64 x102), (97, .int .i64 (IntKind.i64.wrap (x105 + b6))), (99, .pointer (some ⟨g65, 2, none⟩))]) (obs := [fun w => w.cell? ⟨g65, 2, none⟩ = some (.int .i64 x105)]) (by kernel_rfl) ?_ ?_
            · intro w hs; exact hs.var (k := 0) rfl 2 rfl
            refine at_eff rfl rfl ?_
            refine eff_store 0 rfl rfl rfl rfl rfl rfl (.inl (Nat.le_refl _)) rfl (Nat.le_of_ble_eq_true (by kernel_rfl)) rfl ?_
            refine at_eqM (M1 := ([(g65, .cells #[.int .i64 x103, .int .i64 x104, .int .i64 (IntKind.i64.wrap (x105 + b6)), .slice A188 (x106 ++ ([(⟨(⟨([rdA 0 b5 x102] : List Int), p76⟩ : T_impl_Cell), x104, x105⟩ : T_impl_seen)] : List T_impl_seen)).length c189, .bool x111, .slice A113 x112.length c114] 63 (0, 0))] :: s100 :: s190 :: s115 :: Fs)) (M2 := ([(g65, .cells #[.int .i64 x103, .int .i64 x104, .int .i64 (IntKind.i64.wrap (x105 + b6)), .slice A188 (x106 ++ ([(⟨(⟨([rdA 0 b5 x102] : List Int), p76⟩ : T_impl_Cell), x104, x105⟩ : T_impl_seen)] : List T_impl_seen)).length c189, .bool x111, .slice A113 x112.length c114] 63 (0, 0))] :: s100 :: s190 :: s115 :: Fs)) rfl rfl ?_
            refine at_end ?_
            refine at_thn ?_
            refine at_ops [0, 1, 2, 3] rfl ?_
            refine at_seg [0, 1, 2] [3] rfl [] [0, 2, 15, 16, 17, 102] (L2 := [(0, .pointer (some ⟨g65, 0, none⟩)), (2, .int .i64 p76), (15, .slice A98 b5.length c99), (16, .int .i64 (b5.length : Int)), (17, .int .i64 x102), (102, .pointer (some ⟨g65, 4, none⟩))]) (obs := []) (by kernel_rfl) ?_ ?_
            · intro w hs; exact trivial
            refine at_eff rfl rfl ?_
            refine eff_store 0 rfl rfl rfl rfl rfl rfl (.inl (Nat.le_refl _)) rfl (Nat.le_of_ble_eq_true (by kernel_rfl)) rfl ?_
            refine at_eqM (M1 := ([(g65, .cells #[.int .i64 x103, .int .i64 x104, .int .i64 (IntKind.i64.wrap (x105 + b6)), .slice A188 (x106 ++ ([(⟨(⟨([rdA 0 b5 x102] : List Int), p76⟩ : T_impl_Cell), x104, x105⟩ : T_impl_seen)] : List T_impl_seen)).length c189, .bool true, .slice A113 x112.length c114] 63 (0, 0))] :: s100 :: s190 :: s115 :: Fs)) (M2 := ([(g65, .cells #[.int .i64 x103, .int .i64 x104, .int .i64 (IntKind.i64.wrap (x105 + b6)), .slice A188 (x106 ++ ([(⟨(⟨([rdA 0 b5 x102] : List Int), p76⟩ : T_impl_Cell), x104, x105⟩ : T_impl_seen)] : List T_impl_seen)).length c189, .bool true, .slice A113 x112.length c114] 63 (0, 0))] :: s100 :: s190 :: s115 :: Fs)) rfl rfl ?_
            refine at_end ?_
            refine at_in_norm ?_
            refine at_thn ?_
            refine at_reg [] [0, 2, 15, 16, 17] (L2 := [(0, .pointer (some ⟨g65, 0, none⟩)), (2, .int .i64 p76), (15, .slice A98 b5.length c99), (16, .int .i64 (b5.length : Int)), (17, .int .i64 (IntKind.i64.wrap (x102 + 1)))]) (obs := []) (by kernel_rfl) ?_ ?_
            · intro w hs; exact trivial
            refine at_thn ?_
            refine at_keep [0, 2, 15, 16, 17] (L2 := [(0, .pointer (some ⟨g65, 0, none⟩)), (2, .int .i64 p76), (15, .slice A98 b5.length c99), (16, .int .i64 (b5.length : Int)), (17, .int .i64 (IntKind.i64.wrap (x102 + 1)))]) rfl ?_
            exact ih118 _ (by omega) _ _ _ ⟨IntKind.i64.wrap (x102 + 1), x103, x104, IntKind.i64.wrap (x105 + b6), (x106 ++ ([(⟨(⟨([rdA 0 b5 x102] : List Int), p76⟩ : T_impl_Cell), x104, x105⟩ : T_impl_seen)] : List T_impl_seen)), A188, c189, s190, true, x112, A113, c114, s115, rfl, rfl, H, hle, by omega, ho101, hd191, ho116⟩
      · rw [if_neg h120] at H
        refine at_cond_f rfl (decide_eq_false h120) ?_
        refine at_exit ?_
        refine at_then_exit ?_
        refine at_then_exit ?_
        refine at_in_hit ?_
        obtain rfl := Option.some.inj H
        refine at_drop (k := 1) rfl rfl ?_
        refine at_eqM (M1 := ([(g65, .cells #[.int .i64 x103, .int .i64 x104, .int .i64 x105, .slice A107 x106.length c108, .bool x111, .slice A113 x112.length c114] 63 (0, 0))] :: s109 :: s115 :: Fs)) (M2 := ([(g65, .cells #[.int .i64 x103, .int .i64 x104, .int .i64 x105, .slice A107 x106.length c108, .bool x111, .slice A113 x112.length c114] 63 (0, 0))] :: s109 :: s115 :: Fs)) rfl rfl ?_
        refine at_done (vs := []) (obs := []) (.inr rfl) [] [] rfl (by kernel_rfl) (fun w hs => trivial) (fun w hs => ⟨_, _, [[(g65, .cells #[.int .i64 x103, .int .i64 x104, .int .i64 x105, .slice A107 x106.length c108, .bool x111, .slice A113 x112.length c114] 63 (0, 0))], s109, s115], rfl, ⟨A107, c108, s109, A113, c114, s115, rfl, rfl, ho110, ho116⟩, hle, hs⟩)

/-! ### (*loop.example/g00146/impl.Buf).region: function 48 -/
def impl_Buf_region (p81 : T_impl_Buf) : Option (Int × Int) := some (mn p81.Mark p81.Cursor, mx p81.Mark p81.Cursor)
set_option maxHeartbeats 4000000 in
set_option maxRecDepth 100000 in
theorem impl_Buf_region.calls {p81 : T_impl_Buf} {r : Int × Int} {I0 : Imm} {g80 : Nat} {A82 : Option Addr} {c83 : Nat} (H : impl_Buf_region p81 = some r) (hr84 : Rd (Kd.int .i64) I0 A82 c83 p81.Points) :
    Meets Try.prog 48 ([.pointer (some ⟨g80, 0, none⟩)] : List Value).toArray I0 [[(g80, .cells #[.slice A82 p81.Points.length c83, .int .i64 p81.Cursor, .int .i64 p81.Mark] 25 (0, 0))]] (fun v J M => v = .tuple #[.int .i64 r.1, .int .i64 r.2] ∧ M = [[(g80, .cells #[.slice A82 p81.Points.length c83, .int .i64 p81.Cursor, .int .i64 p81.Mark] 25 (0, 0))]]) := by
  have hle := ImmLe.refl I0
  unfold impl_Buf_region at H
  refine fn_intro (fn := Try.f48) 22 Try.func48 rfl rfl rfl (fun E Fs => ?_)
  refine at_seq ?_
  refine at_reg [] [0] (L2 := [(0, .pointer (some ⟨g80, 0, none⟩))]) (obs := []) (by kernel_rfl) ?_ ?_
  · intro w hs; exact trivial
  refine at_thn ?_
  refine at_seq ?_
  refine at_regd hmo [(3, .int .i64 p81.Mark), (7, .int .i64 p81.Cursor), (12, .int .i64 p81.Mark), (16, .int .i64 p81.Cursor)] [2, 3] (by kernel_rfl) (L2 := [(2, .int .i64 (mn p81.Mark p81.Cursor)), (3, .int .i64 (mx p81.Mark p81.Cursor))]) (obs := [fun w => w.cell? ⟨g80, 2, none⟩ = some (.int .i64 p81.Mark), fun w => w.cell? ⟨g80, 1, none⟩ = some (.int .i64 p81.Cursor), fun w => w.cell? ⟨g80, 2, none⟩ = some (.int .i64 p81.Mark), fun w => w.cell? ⟨g80, 1, none⟩ = some (.int .i64 p81.Cursor)]) (by kernel_rfl) ?_ ?_
  · intro w hs; exact ⟨hs.var (k := 0) rfl 2 rfl, hs.var (k := 0) rfl 1 rfl, hs.var (k := 0) rfl 2 rfl, hs.var (k := 0) rfl 1 rfl⟩
  refine at_thn ?_
  refine at_ret ?_
  obtain rfl := Option.some.inj H
  refine at_done (vs := [.int .i64 (mn p81.Mark p81.Cursor), .int .i64 (mx p81.Mark p81.Cursor)]) (obs := []) (.inl rfl) [.tmp 2, .tmp 3] [] rfl (by kernel_rfl) (fun w hs => trivial) (fun w hs => ⟨_, _, [[(g80, .cells #[.slice A82 p81.Points.length c83, .int .i64 p81.Cursor, .int .i64 p81.Mark] 25 (0, 0))]], rfl, ⟨rfl, rfl⟩, hle, hs⟩)
end Go.Proofs.Ytnhnipdanpcbeaa
