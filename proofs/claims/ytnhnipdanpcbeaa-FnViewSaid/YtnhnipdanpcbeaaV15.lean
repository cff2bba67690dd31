import Derived.Test.YtnhnipdanpcbeaaV14
namespace Go.Proofs.Ytnhnipdanpcbeaa
open Go Eng
set_option linter.unusedVariables false
set_option linter.unusedSimpArgs false
/-! ### loop.example/g00146/impl.GridRight: function 14 -/
mutual
def impl_GridRight_j0 : Nat → T_impl_Grid → Option Bool
  | 0, _ => none
  | k + 1, p22042 => impl_GridRight_l0 k 0 p22042
def impl_GridRight_l0 : Nat → Int → T_impl_Grid → Option Bool
  | 0, _, _ => none
  | k + 1, x81149, p22042 => if x81149 < (p22042.Cells.length : Int) then (if 0 ≤ x81149 then ((impl_cellRight k (rdA z_impl_Cell p22042.Cells x81149)).bind fun b14 => (if b14 = true then ((impl_Cell_isWide' k (rdA z_impl_Cell p22042.Cells x81149)).bind fun b15 => (if b15 = true then (if ¬ p22042.Cols = 0 then (if ((IntKind.i64.wrap (x81149 + 1)).tmod p22042.Cols) = 0 then (some false) else (if 0 ≤ (IntKind.i64.wrap (x81149 + 1)) then (if (IntKind.i64.wrap (x81149 + 1)) < (p22042.Cells.length : Int) then ((impl_Cell_isEmpty p22042.Cells (IntKind.i64.wrap (x81149 + 1))).bind fun b16 => (if b16 = true then (if ((rdA z_impl_Cell p22042.Cells (IntKind.i64.wrap (x81149 + 1))).Attr) = ((rdA z_impl_Cell p22042.Cells x81149).Attr) then (impl_GridRight_l0 k (IntKind.i64.wrap (x81149 + 1)) p22042) else (some false)) else (some false))) else none) else none)) else none) else (impl_GridRight_l0 k (IntKind.i64.wrap (x81149 + 1)) p22042))) else (some false))) else none) else (some true)
end
def impl_GridRight (k : Nat) (p22042 : T_impl_Grid) : Option Bool := (impl_isRows p22042.Rows).bind fun b7 => (if b7 = true then ((impl_isCols p22042.Cols).bind fun b8 => (if b8 = true then ((impl_Cell p22042.Cells).bind fun b9 => (if b9 = (IntKind.i64.wrap (p22042.Rows * p22042.Cols)) then ((impl_within p22042.Row 0 (IntKind.i64.wrap (p22042.Rows - 1))).bind fun b10 => (if b10 = true then ((impl_within p22042.Col 0 (IntKind.i64.wrap (p22042.Cols - 1))).bind fun b11 => (if b11 = true then (if p22042.Hang = true then (if p22042.Col = (IntKind.i64.wrap (p22042.Cols - 1)) then ((impl_within p22042.Attr 0 3).bind fun b12 => (if b12 = true then (impl_GridRight_j0 k p22042) else (some false))) else (some false)) else ((impl_within p22042.Attr 0 3).bind fun b13 => (if b13 = true then (impl_GridRight_j0 k p22042) else (some false)))) else (some false))) else (some false))) else (some false))) else (some false))) else (some false))
set_option maxHeartbeats 4000000 in
set_option maxRecDepth 100000 in
theorem impl_GridRight.calls {k : Nat} {p22042 : T_impl_Grid} {r : Bool} {I0 : Imm} {A22043 : Option Addr} {c22044 : Nat} (H : impl_GridRight k p22042 = some r) (hr22045 : Rd k_impl_Cell I0 A22043 c22044 p22042.Cells) :
    Meets Try.prog 14 ([.agg #[.int .i64 p22042.Rows, .int .i64 p22042.Cols, .slice A22043 p22042.Cells.length c22044, .int .i64 p22042.Row, .int .i64 p22042.Col, .bool p22042.Hang, .int .i64 p22042.Attr]] : List Value).toArray I0 [] (fun v J M => v = .bool r ∧ M = []) := by
 have hle := ImmLe.refl I0
 unfold impl_GridRight at H
 refine fn_intro (fn := Try.f14) 103 Try.func14 rfl rfl rfl (fun E Fs => ?_)
 refine at_seq (at_ops [0, 1] rfl ?_)
 refine at_eff rfl rfl ?_
 refine eff_box rfl rfl rfl #[iV p22042.Rows, iV p22042.Cols, .slice A22043 p22042.Cells.length c22044, iV p22042.Row, iV p22042.Col, .bool p22042.Hang, iV p22042.Attr] rfl (fun g22046 => ?_)
 refine at_seg0 [1] [] [] [1] [(1, .pointer (some ⟨g22046, 0, none⟩))] ?_
 refine at_end (at_thn (at_join (fun L I Ms => ∃ (k81147 : Nat), L = [(1, .pointer (some ⟨g22046, 0, none⟩))] ∧ Ms = ([(g22046, .cells #[iV p22042.Rows, iV p22042.Cols, .slice A22043 p22042.Cells.length c22044, iV p22042.Row, iV p22042.Col, .bool p22042.Hang, iV p22042.Attr] 38 (0, 0))] :: Fs) ∧ impl_GridRight_j0 k81147 p22042 = some r ∧ ImmLe I0 I ∧ k81147 ≤ k ∧ Rd k_impl_Cell I A22043 c22044 p22042.Cells) ?_ ?_))
 ·
  clear H hle hr22045
  intro L I Ms h_; obtain ⟨k81147, hL_, hM_, H, hle, hk81148, hr22045⟩ := h_; rw [hL_, hM_]; clear hL_ hM_ L Ms
  rcases k81147 with _ | k81147
  · exact (no_none H).elim
  rw [impl_GridRight_j0] at H
  refine at_seq (at_seq (at_reg1 [(1, .slice A22043 p22042.Cells.length c22044)] [1, 63, 64, 65] [(1, .pointer (some ⟨g22046, 0, none⟩)), (63, .slice A22043 p22042.Cells.length c22044), (64, iV (p22042.Cells.length : Int)), (65, iV 0)] [fun w => w.cell? ⟨g22046, 2, none⟩ = some (.slice A22043 p22042.Cells.length c22044)] (fun w hs => hs.var (k := 0) rfl 2 rfl) ?_))
  refine at_thn (at_block (at_keep [1, 63, 64, 65] (L2 := [(1, .pointer (some ⟨g22046, 0, none⟩)), (63, .slice A22043 p22042.Cells.length c22044), (64, iV (p22042.Cells.length : Int)), (65, iV 0)]) rfl ?_))
  refine at_loop (fun k81150 L I Ms => ∃ (x81149 : Int), L = [(1, .pointer (some ⟨g22046, 0, none⟩)), (63, .slice A22043 p22042.Cells.length c22044), (64, iV (p22042.Cells.length : Int)), (65, iV x81149)] ∧ Ms = ([(g22046, .cells #[iV p22042.Rows, iV p22042.Cols, .slice A22043 p22042.Cells.length c22044, iV p22042.Row, iV p22042.Col, .bool p22042.Hang, iV p22042.Attr] 38 (0, 0))] :: Fs) ∧ impl_GridRight_l0 k81150 x81149 p22042 = some r ∧ ImmLe I0 I ∧ k81150 ≤ k81147 ∧ Rd k_impl_Cell I A22043 c22044 p22042.Cells) ?_ ?_ k81147 ⟨0, rfl, rfl, H, hle, Nat.le_refl _, hr22045⟩
  · rintro L I Ms ⟨_, rfl, rfl, H, _⟩; exact no_none H
  ·
   clear H hle hr22045
   intro k81150 ih81151 L I Ms h_; obtain ⟨x81149, hL_, hM_, H, hle, hk81152, hr22045⟩ := h_; rw [hL_, hM_]; clear hL_ hM_ L Ms
   rw [impl_GridRight_l0] at H
   refine at_seq (at_reg0 [] [1, 63, 64, 65, 66] [(1, .pointer (some ⟨g22046, 0, none⟩)), (63, .slice A22043 p22042.Cells.length c22044), (64, iV (p22042.Cells.length : Int)), (65, iV x81149), (66, .bool (decide (x81149 < (p22042.Cells.length : Int))))] ?_)
   refine at_thn (at_seq ?_)
   by_cases h81153 : x81149 < (p22042.Cells.length : Int)
   ·
    rw [if_pos h81153] at H
    refine at_cond_t rfl (decide_eq_true h81153) ?_
    refine at_skip (at_thn (at_seq (at_block (at_seq (at_ops [0, 1, 2, 3, 4, 5] rfl ?_)))))
    obtain ⟨h81154, H⟩ := ite_some H
    obtain ⟨cs81159, hz81160, hc81155⟩ := hr22045.elem z_impl_Cell x81149 h81154 h81153
    obtain ⟨A81156, c81157, rfl, hr81158⟩ := hz81160
    refine at_seg1 [0, 1, 2] [3, 4, 5] [(2, .agg #[.slice A81156 ((rdA z_impl_Cell p22042.Cells x81149).Points).length c81157, iV ((rdA z_impl_Cell p22042.Cells x81149).Attr)])] [1, 63, 64, 65, 67, 69] [(1, .pointer (some ⟨g22046, 0, none⟩)), (63, .slice A22043 p22042.Cells.length c22044), (64, iV (p22042.Cells.length : Int)), (65, iV x81149), (67, iV x81149), (69, .agg #[.slice A81156 ((rdA z_impl_Cell p22042.Cells x81149).Points).length c81157, iV ((rdA z_impl_Cell p22042.Cells x81149).Attr)])] [fun _ => A22043.isSome = true ∧ 0 ≤ x81149 ∧ x81149 < ((p22042.Cells.length : Nat) : Int), fun w => CellsAt w ((A22043.getD ad0).add (x81149.toNat * 2)) [.slice A81156 ((rdA z_impl_Cell p22042.Cells x81149).Points).length c81157, iV ((rdA z_impl_Cell p22042.Cells x81149).Attr)] 0] (fun w hs => ⟨⟨hr22045.ne x81149 h81154 h81153, h81154, h81153⟩, ⟨hc81155 0 _ rfl hs, hc81155 1 _ rfl hs, trivial⟩⟩) ?_
    refine at_eff rfl rfl ?_
    obtain ⟨i_, hi_, hz_, _, _⟩ := info71
    refine eff_alloc rfl rfl hi_ hz_ #[.slice none ([] : List Int).length 0, iV 0] rfl (fun g81161 => ?_)
    refine at_seg0 [4] [5] [] [1, 3, 4, 63, 64, 65, 69] [(1, .pointer (some ⟨g22046, 0, none⟩)), (3, iV x81149), (4, .pointer (some ⟨g81161, 0, none⟩)), (63, .slice A22043 p22042.Cells.length c22044), (64, iV (p22042.Cells.length : Int)), (65, iV x81149), (69, .agg #[.slice A81156 ((rdA z_impl_Cell p22042.Cells x81149).Points).length c81157, iV ((rdA z_impl_Cell p22042.Cells x81149).Attr)])] ?_
    refine at_eff rfl rfl ?_
    refine eff_store 0 rfl rfl rfl rfl rfl rfl (.inl (Nat.le_refl _)) rfl (Nat.le_of_ble_eq_true (by kernel_rfl)) rfl ?_
    refine at_sg ([(g81161, .cells #[.slice A81156 ((rdA z_impl_Cell p22042.Cells x81149).Points).length c81157, iV ((rdA z_impl_Cell p22042.Cells x81149).Attr)] 71 (0, 0))] :: [(g22046, .cells #[iV p22042.Rows, iV p22042.Cols, .slice A22043 p22042.Cells.length c22044, iV p22042.Row, iV p22042.Col, .bool p22042.Hang, iV p22042.Attr] 38 (0, 0))] :: Fs) ?_
    refine at_end (at_thn (at_seq (at_seq (at_ops [0, 1, 2] rfl ?_))))
    refine at_seg1 [0] [1, 2] [(0, .agg #[.slice A81156 ((rdA z_impl_Cell p22042.Cells x81149).Points).length c81157, iV ((rdA z_impl_Cell p22042.Cells x81149).Attr)])] [1, 3, 4, 63, 64, 65, 70] [(1, .pointer (some ⟨g22046, 0, none⟩)), (3, iV x81149), (4, .pointer (some ⟨g81161, 0, none⟩)), (63, .slice A22043 p22042.Cells.length c22044), (64, iV (p22042.Cells.length : Int)), (65, iV x81149), (70, .agg #[.slice A81156 ((rdA z_impl_Cell p22042.Cells x81149).Points).length c81157, iV ((rdA z_impl_Cell p22042.Cells x81149).Attr)])] [fun w => CellsAt w ⟨g81161, 0, none⟩ [.slice A81156 ((rdA z_impl_Cell p22042.Cells x81149).Points).length c81157, iV ((rdA z_impl_Cell p22042.Cells x81149).Attr)] 0] (fun w hs => cellsV (k := 0) hs rfl _ 0 (Nat.le_of_ble_eq_true (by kernel_rfl)) rfl) ?_
    refine at_eff rfl rfl ?_
    obtain ⟨b14, H81162, H⟩ := bind_some H
    have hm_ := impl_cellRight.calls (I0 := I) H81162 hr81158
    refine eff_call rfl rfl ok40 rfl rfl (show Meets Try.prog 40 ([.agg #[.slice A81156 ((rdA z_impl_Cell p22042.Cells x81149).Points).length c81157, iV ((rdA z_impl_Cell p22042.Cells x81149).Attr)]] : List Value).toArray _ [] _ from hm_) (Mr := ([(g81161, .cells #[.slice A81156 ((rdA z_impl_Cell p22042.Cells x81149).Points).length c81157, iV ((rdA z_impl_Cell p22042.Cells x81149).Attr)] 71 (0, 0))] :: [(g22046, .cells #[iV p22042.Rows, iV p22042.Cols, .slice A22043 p22042.Cells.length c22044, iV p22042.Row, iV p22042.Col, .bool p22042.Hang, iV p22042.Attr] 38 (0, 0))] :: Fs)) (List.Perm.refl _) (fun v81163 J81164 M81165 hq81166 hJ81167 => ?_)
    replace hle := hle.trans hJ81167
    replace hr22045 := hr22045.mono hJ81167
    replace hr81158 := hr81158.mono hJ81167
    obtain ⟨rfl, rfl⟩ := hq81166
    refine at_seg0 [2] [] [] [1, 3, 4, 63, 64, 65, 72] [(1, .pointer (some ⟨g22046, 0, none⟩)), (3, iV x81149), (4, .pointer (some ⟨g81161, 0, none⟩)), (63, .slice A22043 p22042.Cells.length c22044), (64, iV (p22042.Cells.length : Int)), (65, iV x81149), (72, .bool (!b14))] ?_
    refine at_end (at_thn ?_)
    by_cases h81168 : b14 = true
    ·
     rw [if_pos h81168] at H
     refine at_cond_f rfl (not_ff (h81168)) ?_
     refine at_skip (at_thn (at_seq (at_seq (at_ops [0, 1] rfl ?_))))
     refine at_eff rfl rfl ?_
     obtain ⟨b15, H81169, H⟩ := bind_some H
     refine eff_call rfl rfl ok37 rfl rfl (show Meets Try.prog 37 ([.pointer (some ⟨g81161, 0, none⟩)] : List Value).toArray _ [[(g81161, .cells #[.slice A81156 ((rdA z_impl_Cell p22042.Cells x81149).Points).length c81157, iV ((rdA z_impl_Cell p22042.Cells x81149).Attr)] 71 (0, 0))]] _ from impl_Cell_isWide'.calls H81169 hr81158) (Mr := ([(g22046, .cells #[iV p22042.Rows, iV p22042.Cols, .slice A22043 p22042.Cells.length c22044, iV p22042.Row, iV p22042.Col, .bool p22042.Hang, iV p22042.Attr] 38 (0, 0))] :: Fs)) (List.Perm.refl _) (fun v81170 J81171 M81172 hq81173 hJ81174 => ?_)
     replace hle := hle.trans hJ81174
     replace hr22045 := hr22045.mono hJ81174
     replace hr81158 := hr81158.mono hJ81174
     obtain ⟨rfl, rfl⟩ := hq81173
     refine at_seg0 [1] [] [] [1, 3, 4, 63, 64, 65, 74] [(1, .pointer (some ⟨g22046, 0, none⟩)), (3, iV x81149), (4, .pointer (some ⟨g81161, 0, none⟩)), (63, .slice A22043 p22042.Cells.length c22044), (64, iV (p22042.Cells.length : Int)), (65, iV x81149), (74, .bool (!b15))] ?_
     refine at_end (at_thn ?_)
     by_cases h81175 : b15 = true
     ·
      rw [if_pos h81175] at H
      refine at_cond_f rfl (not_ff (h81175)) ?_
      refine at_skip (at_thn (at_seq ?_))
      obtain ⟨h81176, H⟩ := ite_some H
      by_cases h81177 : ((IntKind.i64.wrap (x81149 + 1)).tmod p22042.Cols) = 0
      ·
       rw [if_pos h81177] at H
       refine at_x hmo (fun w => w.cell? ⟨g22046, 1, none⟩ = some (iV p22042.Cols)) [] ?_
       refine at_xseg [0, 1, 2, 3, 4, 5, 6, 7, 8, 9, 10, 11] 15 (#[true, true, true, true, true, true, true, true, true, true, true, true, false, false, false, false, false, false, false, false, false, false, false, false, false, false, false]) rfl (by kernel_rfl) [(3, iV p22042.Cols), (6, .bool true)] [1, 3, 4, 63, 64, 65, 81, 86] (L2 := [(1, .pointer (some ⟨g22046, 0, none⟩)), (3, iV x81149), (4, .pointer (some ⟨g81161, 0, none⟩)), (63, .slice A22043 p22042.Cells.length c22044), (64, iV (p22042.Cells.length : Int)), (65, iV x81149), (81, .bool true), (86, undef)]) (obs := [fun w => w.cell? ⟨g22046, 1, none⟩ = some (iV p22042.Cols), fun _ => ¬ p22042.Cols = 0, fun _ => (.bool (((IntKind.i64.wrap (x81149 + 1)).tmod p22042.Cols) == 0) : Value) = .bool true]) (by kernel_rfl) (by kernel_rfl) (by kernel_rfl) (.inr fun w hs => hs.var (k := 1) rfl 1 rfl) (fun w hS => ⟨hS, h81176, congrArg Value.bool (beq_iff_eq.2 h81177)⟩) (fun w hs => ⟨hs.var (k := 1) rfl 1 rfl, h81176, congrArg Value.bool (beq_iff_eq.2 h81177)⟩) ?_
       refine at_xseg [12, 13, 14, 15, 16, 17, 18, 19, 20, 21, 22, 23, 24, 25, 26] 0 (#[true, true, true, true, true, true, true, true, true, true, true, true, true, true, true, true, true, true, true, true, true, true, true, true, true, true, true]) rfl (by kernel_rfl) [] [1, 63, 64, 65, 101] (L2 := [(1, .pointer (some ⟨g22046, 0, none⟩)), (63, .slice A22043 p22042.Cells.length c22044), (64, iV (p22042.Cells.length : Int)), (65, iV x81149), (101, .bool true)]) (obs := []) (by kernel_rfl) (by kernel_rfl) (by kernel_rfl) (.inr fun w hs => hs.var (k := 1) rfl 1 rfl) (fun w hS => trivial) (fun w hs => trivial) ?_
       refine at_xend (by kernel_rfl) ?_
       refine at_thn (at_cond_t rfl (rfl) ?_)
       refine at_seq (at_reg0 [] [2] [(2, .bool false)] ?_)
       refine at_thn (at_ret (at_in_ret (at_then_ret (at_then_ret (at_in_ret (at_then_ret ?_))))))
       obtain rfl := Option.some.inj H
       refine at_drop (k := 0) rfl rfl ?_
       refine at_drop (k := 0) rfl rfl ?_
       exact at_done0 [.bool false] (.inl rfl) [.tmp 2] fun w hs => ⟨_, _, [], rfl, ⟨rfl, rfl⟩, hle, hs⟩
      ·
       rw [if_neg h81177] at H
       obtain ⟨h110176, H⟩ := ite_some H
       obtain ⟨h110177, H⟩ := ite_some H
       refine at_x hmo (fun w => w.cell? ⟨g22046, 1, none⟩ = some (iV p22042.Cols) ∧ w.cell? ⟨g22046, 2, none⟩ = some (.slice A22043 p22042.Cells.length c22044)) [] ?_
       refine at_xseg [0, 1, 2, 3, 4, 5, 6, 7, 8, 9, 10, 11] 15 (#[true, true, true, true, true, true, true, true, true, true, true, true, false, false, false, false, false, false, false, false, false, false, false, false, false, false, false]) rfl (by kernel_rfl) [(3, iV p22042.Cols), (6, .bool false), (8, .slice A22043 p22042.Cells.length c22044)] [1, 3, 4, 63, 64, 65, 81, 86] (L2 := [(1, .pointer (some ⟨g22046, 0, none⟩)), (3, iV x81149), (4, .pointer (some ⟨g81161, 0, none⟩)), (63, .slice A22043 p22042.Cells.length c22044), (64, iV (p22042.Cells.length : Int)), (65, iV x81149), (81, .bool false), (86, .pointer (some ((A22043.getD ad0).add ((IntKind.i64.wrap (x81149 + 1)).toNat * 2))))]) (obs := [fun w => w.cell? ⟨g22046, 1, none⟩ = some (iV p22042.Cols), fun _ => ¬ p22042.Cols = 0, fun _ => (.bool (((IntKind.i64.wrap (x81149 + 1)).tmod p22042.Cols) == 0) : Value) = .bool false, fun w => w.cell? ⟨g22046, 2, none⟩ = some (.slice A22043 p22042.Cells.length c22044), fun _ => A22043.isSome = true ∧ 0 ≤ (IntKind.i64.wrap (x81149 + 1)) ∧ (IntKind.i64.wrap (x81149 + 1)) < ((p22042.Cells.length : Nat) : Int)]) (by kernel_rfl) (by kernel_rfl) (by kernel_rfl) (.inr fun w hs => ⟨hs.var (k := 1) rfl 1 rfl, hs.var (k := 1) rfl 2 rfl⟩) (fun w hS => ⟨hS.1, h81176, congrArg Value.bool (beq_eq_false_iff_ne.2 h81177), hS.2, ⟨hr22045.ne (IntKind.i64.wrap (x81149 + 1)) h110176 h110177, h110176, h110177⟩⟩) (fun w hs => ⟨hs.var (k := 1) rfl 1 rfl, h81176, congrArg Value.bool (beq_eq_false_iff_ne.2 h81177), hs.var (k := 1) rfl 2 rfl, ⟨hr22045.ne (IntKind.i64.wrap (x81149 + 1)) h110176 h110177, h110176, h110177⟩⟩) ?_
       refine at_x1 14 12 (#[true, true, true, true, true, true, true, true, true, true, true, true, true, false, false, false, false, false, false, false, false, false, false, false, false, false, false]) rfl (by kernel_rfl) (by kernel_rfl) rfl rfl ?_
       obtain ⟨b16, H94176, H⟩ := bind_some H
       have hm_ := impl_Cell_isEmpty.calls (I0 := J81171) H94176 hr22045 h110176 h110177
       refine eff_call rfl rfl ok41 rfl rfl (show Meets Try.prog 41 ([.pointer (some ((A22043.getD ad0).add ((IntKind.i64.wrap (x81149 + 1)).toNat * 2)))] : List Value).toArray _ [] _ from hm_) (Mr := ([(g81161, .cells #[.slice A81156 ((rdA z_impl_Cell p22042.Cells x81149).Points).length c81157, iV ((rdA z_impl_Cell p22042.Cells x81149).Attr)] 71 (0, 0))] :: [(g22046, .cells #[iV p22042.Rows, iV p22042.Cols, .slice A22043 p22042.Cells.length c22044, iV p22042.Row, iV p22042.Col, .bool p22042.Hang, iV p22042.Attr] 38 (0, 0))] :: Fs)) (List.Perm.refl _) (fun v94177 J94178 M94179 hq94180 hJ94181 => ?_)
       replace hle := hle.trans hJ94181
       replace hr22045 := hr22045.mono hJ94181
       replace hr81158 := hr81158.mono hJ94181
       obtain ⟨rfl, rfl⟩ := hq94180
       refine at_xS (fun w hs => ⟨hs.var (k := 1) rfl 1 rfl, hs.var (k := 1) rfl 2 rfl⟩) ?_
       by_cases h94182 : b16 = true
       ·
        rw [if_pos h94182] at H
        obtain ⟨cs94187, hz94188, hc94183⟩ := hr22045.elem z_impl_Cell (IntKind.i64.wrap (x81149 + 1)) h110176 h110177
        obtain ⟨A94184, c94185, rfl, hr94186⟩ := hz94188
        refine at_xweak (S' := fun w => w.cell? ⟨g22046, 1, none⟩ = some (iV p22042.Cols) ∧ w.cell? ⟨g22046, 2, none⟩ = some (.slice A22043 p22042.Cells.length c22044) ∧ w.cell? ⟨g22046, 2, none⟩ = some (.slice A22043 p22042.Cells.length c22044) ∧ w.cell? (((A22043.getD ad0).add ((IntKind.i64.wrap (x81149 + 1)).toNat * 2)).add 1) = some (iV ((rdA z_impl_Cell p22042.Cells (IntKind.i64.wrap (x81149 + 1))).Attr)) ∧ w.cell? ⟨g81161, 1, none⟩ = some (iV ((rdA z_impl_Cell p22042.Cells x81149).Attr))) (fun w h_ => ⟨h_.1, h_.2.1⟩) ?_
        refine at_xseg [13, 14, 15, 16, 17, 18, 19, 20, 21, 22, 23, 24, 25, 26] 0 (#[true, true, true, true, true, true, true, true, true, true, true, true, true, true, true, true, true, true, true, true, true, true, true, true, true, true, true]) rfl (by kernel_rfl) [(15, .bool false), (17, .slice A22043 p22042.Cells.length c22044), (22, iV ((rdA z_impl_Cell p22042.Cells (IntKind.i64.wrap (x81149 + 1))).Attr)), (24, iV ((rdA z_impl_Cell p22042.Cells x81149).Attr))] [1, 63, 64, 65, 101] (L2 := [(1, .pointer (some ⟨g22046, 0, none⟩)), (63, .slice A22043 p22042.Cells.length c22044), (64, iV (p22042.Cells.length : Int)), (65, iV x81149), (101, .bool (((rdA z_impl_Cell p22042.Cells (IntKind.i64.wrap (x81149 + 1))).Attr) != ((rdA z_impl_Cell p22042.Cells x81149).Attr)))]) (obs := [fun _ => (.bool (!b16) : Value) = .bool false, fun w => w.cell? ⟨g22046, 2, none⟩ = some (.slice A22043 p22042.Cells.length c22044), fun _ => A22043.isSome = true ∧ 0 ≤ (IntKind.i64.wrap (x81149 + 1)) ∧ (IntKind.i64.wrap (x81149 + 1)) < ((p22042.Cells.length : Nat) : Int), fun w => w.cell? (((A22043.getD ad0).add ((IntKind.i64.wrap (x81149 + 1)).toNat * 2)).add 1) = some (iV ((rdA z_impl_Cell p22042.Cells (IntKind.i64.wrap (x81149 + 1))).Attr)), fun w => w.cell? ⟨g81161, 1, none⟩ = some (iV ((rdA z_impl_Cell p22042.Cells x81149).Attr))]) (by kernel_rfl) (by kernel_rfl) (by kernel_rfl) (.inr fun w hs => ⟨hs.var (k := 1) rfl 1 rfl, hs.var (k := 1) rfl 2 rfl, hs.var (k := 1) rfl 2 rfl, hc94183 1 _ rfl hs, hs.var (k := 0) rfl 1 rfl⟩) (fun w hS => ⟨congrArg Value.bool (not_ff (h94182)), hS.2.2.1, ⟨hr22045.ne (IntKind.i64.wrap (x81149 + 1)) h110176 h110177, h110176, h110177⟩, hS.2.2.2.1, hS.2.2.2.2⟩) (fun w hs => ⟨congrArg Value.bool (not_ff (h94182)), hs.var (k := 1) rfl 2 rfl, ⟨hr22045.ne (IntKind.i64.wrap (x81149 + 1)) h110176 h110177, h110176, h110177⟩, hc94183 1 _ rfl hs, hs.var (k := 0) rfl 1 rfl⟩) ?_
        refine at_xend (by kernel_rfl) ?_
        refine at_thn ?_
        by_cases h110176 : ((rdA z_impl_Cell p22042.Cells (IntKind.i64.wrap (x81149 + 1))).Attr) = ((rdA z_impl_Cell p22042.Cells x81149).Attr)
        ·
         rw [if_pos h110176] at H
         refine at_cond_f rfl (bne_eq_false_iff_eq.2 h110176) ?_
         refine at_skip (at_in_norm (at_thn (at_reg0 [] [1, 63, 64, 65] [(1, .pointer (some ⟨g22046, 0, none⟩)), (63, .slice A22043 p22042.Cells.length c22044), (64, iV (p22042.Cells.length : Int)), (65, iV (IntKind.i64.wrap (x81149 + 1)))] ?_)))
         refine at_thn (at_drop (k := 0) rfl rfl ?_)
         refine at_sg ([(g22046, .cells #[iV p22042.Rows, iV p22042.Cols, .slice A22043 p22042.Cells.length c22044, iV p22042.Row, iV p22042.Col, .bool p22042.Hang, iV p22042.Attr] 38 (0, 0))] :: Fs) ?_
         refine at_keep [1, 63, 64, 65] (L2 := [(1, .pointer (some ⟨g22046, 0, none⟩)), (63, .slice A22043 p22042.Cells.length c22044), (64, iV (p22042.Cells.length : Int)), (65, iV (IntKind.i64.wrap (x81149 + 1)))]) rfl ?_
         exact ih81151 _ (by omega) _ _ _ ⟨IntKind.i64.wrap (x81149 + 1), rfl, rfl, H, hle, by omega, hr22045⟩
        ·
         rw [if_neg h110176] at H
         refine at_cond_t rfl (bne_iff_ne.2 h110176) ?_
         refine at_seq (at_reg0 [] [2] [(2, .bool false)] ?_)
         refine at_thn (at_ret (at_in_ret (at_then_ret (at_then_ret (at_in_ret (at_then_ret ?_))))))
         obtain rfl := Option.some.inj H
         refine at_drop (k := 0) rfl rfl ?_
         refine at_drop (k := 0) rfl rfl ?_
         exact at_done0 [.bool false] (.inl rfl) [.tmp 2] fun w hs => ⟨_, _, [], rfl, ⟨rfl, rfl⟩, hle, hs⟩
       ·
        rw [if_neg h94182] at H
        refine at_xseg [13, 14, 15, 16, 17, 18, 19, 20, 21, 22, 23, 24, 25, 26] 0 (#[true, true, true, true, true, true, true, true, true, true, true, true, true, true, true, true, true, true, true, true, true, true, true, true, true, true, true]) rfl (by kernel_rfl) [(15, .bool true)] [1, 63, 64, 65, 101] (L2 := [(1, .pointer (some ⟨g22046, 0, none⟩)), (63, .slice A22043 p22042.Cells.length c22044), (64, iV (p22042.Cells.length : Int)), (65, iV x81149), (101, .bool true)]) (obs := [fun _ => (.bool (!b16) : Value) = .bool true]) (by kernel_rfl) (by kernel_rfl) (by kernel_rfl) (.inr fun w hs => ⟨hs.var (k := 1) rfl 1 rfl, hs.var (k := 1) rfl 2 rfl⟩) (fun w hS => congrArg Value.bool (not_tt (ff_of h94182))) (fun w hs => congrArg Value.bool (not_tt (ff_of h94182))) ?_
        refine at_xend (by kernel_rfl) ?_
        refine at_thn (at_cond_t rfl (rfl) ?_)
        refine at_seq (at_reg0 [] [2] [(2, .bool false)] ?_)
        refine at_thn (at_ret (at_in_ret (at_then_ret (at_then_ret (at_in_ret (at_then_ret ?_))))))
        obtain rfl := Option.some.inj H
        refine at_drop (k := 0) rfl rfl ?_
        refine at_drop (k := 0) rfl rfl ?_
        exact at_done0 [.bool false] (.inl rfl) [.tmp 2] fun w hs => ⟨_, _, [], rfl, ⟨rfl, rfl⟩, hle, hs⟩
     ·
      rw [if_neg h81175] at H
      refine at_cond_t rfl (not_tt (ff_of h81175)) ?_
      refine at_exit (at_then_exit (at_in_hit (at_thn (at_reg0 [] [1, 63, 64, 65] [(1, .pointer (some ⟨g22046, 0, none⟩)), (63, .slice A22043 p22042.Cells.length c22044), (64, iV (p22042.Cells.length : Int)), (65, iV (IntKind.i64.wrap (x81149 + 1)))] ?_))))
      refine at_thn (at_drop (k := 0) rfl rfl ?_)
      refine at_sg ([(g22046, .cells #[iV p22042.Rows, iV p22042.Cols, .slice A22043 p22042.Cells.length c22044, iV p22042.Row, iV p22042.Col, .bool p22042.Hang, iV p22042.Attr] 38 (0, 0))] :: Fs) ?_
      refine at_keep [1, 63, 64, 65] (L2 := [(1, .pointer (some ⟨g22046, 0, none⟩)), (63, .slice A22043 p22042.Cells.length c22044), (64, iV (p22042.Cells.length : Int)), (65, iV (IntKind.i64.wrap (x81149 + 1)))]) rfl ?_
      exact ih81151 _ (by omega) _ _ _ ⟨IntKind.i64.wrap (x81149 + 1), rfl, rfl, H, hle, by omega, hr22045⟩
    ·
     rw [if_neg h81168] at H
     refine at_cond_t rfl (not_tt (ff_of h81168)) ?_
     refine at_seq (at_reg0 [] [2] [(2, .bool false)] ?_)
     refine at_thn (at_ret (at_then_ret (at_in_ret (at_then_ret (at_then_ret (at_in_ret (at_then_ret ?_)))))))
     obtain rfl := Option.some.inj H
     refine at_drop (k := 0) rfl rfl ?_
     refine at_drop (k := 0) rfl rfl ?_
     exact at_done0 [.bool false] (.inl rfl) [.tmp 2] fun w hs => ⟨_, _, [], rfl, ⟨rfl, rfl⟩, hle, hs⟩
   ·
    rw [if_neg h81153] at H
    refine at_cond_f rfl (decide_eq_false h81153) ?_
    refine at_exit (at_then_exit (at_then_exit (at_in_hit (at_thn (at_seq (at_reg0 [] [2] [(2, .bool true)] ?_))))))
    refine at_thn (at_ret ?_)
    obtain rfl := Option.some.inj H
    refine at_drop (k := 0) rfl rfl ?_
    exact at_done0 [.bool true] (.inl rfl) [.tmp 2] fun w hs => ⟨_, _, [], rfl, ⟨rfl, rfl⟩, hle, hs⟩
 ·
  intro Jn22047
  refine at_seq (at_x hmo (fun w => w.cell? ⟨g22046, 0, none⟩ = some (iV p22042.Rows)) [] ?_)
  refine at_xseg [0, 1] 55 (#[true, true, false, false, false, false, false, false, false, false, false, false, false, false, false, false, false, false, false, false, false, false, false, false, false, false, false, false, false, false, false, false, false, false, false, false, false, false, false, false, false, false, false, false, false, false, false, false, false, false, false, false, false, false, false, false, false]) rfl (by kernel_rfl) [(1, iV p22042.Rows)] [1, 6] (L2 := [(1, .pointer (some ⟨g22046, 0, none⟩)), (6, iV p22042.Rows)]) (obs := [fun w => w.cell? ⟨g22046, 0, none⟩ = some (iV p22042.Rows)]) (by kernel_rfl) (by kernel_rfl) (by kernel_rfl) (.inr fun w hs => hs.var (k := 0) rfl 0 rfl) (fun w hS => hS) (fun w hs => hs.var (k := 0) rfl 0 rfl) ?_
  refine at_x1 54 2 (#[true, true, true, false, false, false, false, false, false, false, false, false, false, false, false, false, false, false, false, false, false, false, false, false, false, false, false, false, false, false, false, false, false, false, false, false, false, false, false, false, false, false, false, false, false, false, false, false, false, false, false, false, false, false, false, false, false]) rfl (by kernel_rfl) (by kernel_rfl) rfl rfl ?_
  obtain ⟨b7, H25047, H⟩ := bind_some H
  have hm_ := impl_isRows.calls (I0 := I0) H25047
  refine eff_call rfl rfl ok34 rfl rfl (show Meets Try.prog 34 ([iV p22042.Rows] : List Value).toArray _ [] _ from hm_) (Mr := ([(g22046, .cells #[iV p22042.Rows, iV p22042.Cols, .slice A22043 p22042.Cells.length c22044, iV p22042.Row, iV p22042.Col, .bool p22042.Hang, iV p22042.Attr] 38 (0, 0))] :: Fs)) (List.Perm.refl _) (fun v25048 J25049 M25050 hq25051 hJ25052 => ?_)
  replace hle := hle.trans hJ25052
  replace hr22045 := hr22045.mono hJ25052
  obtain ⟨rfl, rfl⟩ := hq25051
  refine at_xS (fun w hs => hs.var (k := 0) rfl 0 rfl) ?_
  by_cases h25053 : b7 = true
  ·
   rw [if_pos h25053] at H
   refine at_xweak (S' := fun w => w.cell? ⟨g22046, 0, none⟩ = some (iV p22042.Rows) ∧ w.cell? ⟨g22046, 1, none⟩ = some (iV p22042.Cols)) (fun w h_ => h_.1) ?_
   refine at_xseg [3, 4, 5, 6] 50 (#[true, true, true, true, true, true, true, false, false, false, false, false, false, false, false, false, false, false, false, false, false, false, false, false, false, false, false, false, false, false, false, false, false, false, false, false, false, false, false, false, false, false, false, false, false, false, false, false, false, false, false, false, false, false, false, false, false]) rfl (by kernel_rfl) [(4, .bool false), (6, iV p22042.Cols)] [1, 9, 11] (L2 := [(1, .pointer (some ⟨g22046, 0, none⟩)), (9, .bool false), (11, iV p22042.Cols)]) (obs := [fun _ => (.bool (!b7) : Value) = .bool false, fun w => w.cell? ⟨g22046, 1, none⟩ = some (iV p22042.Cols)]) (by kernel_rfl) (by kernel_rfl) (by kernel_rfl) (.inr fun w hs => ⟨hs.var (k := 0) rfl 0 rfl, hs.var (k := 0) rfl 1 rfl⟩) (fun w hS => ⟨congrArg Value.bool (not_ff (h25053)), hS.2⟩) (fun w hs => ⟨congrArg Value.bool (not_ff (h25053)), hs.var (k := 0) rfl 1 rfl⟩) ?_
   refine at_x1 49 7 (#[true, true, true, true, true, true, true, true, false, false, false, false, false, false, false, false, false, false, false, false, false, false, false, false, false, false, false, false, false, false, false, false, false, false, false, false, false, false, false, false, false, false, false, false, false, false, false, false, false, false, false, false, false, false, false, false, false]) rfl (by kernel_rfl) (by kernel_rfl) rfl rfl ?_
   obtain ⟨b8, H30047, H⟩ := bind_some H
   have hm_ := impl_isCols.calls (I0 := J25049) H30047
   refine eff_call rfl rfl ok38 rfl rfl (show Meets Try.prog 38 ([iV p22042.Cols] : List Value).toArray _ [] _ from hm_) (Mr := ([(g22046, .cells #[iV p22042.Rows, iV p22042.Cols, .slice A22043 p22042.Cells.length c22044, iV p22042.Row, iV p22042.Col, .bool p22042.Hang, iV p22042.Attr] 38 (0, 0))] :: Fs)) (List.Perm.refl _) (fun v30048 J30049 M30050 hq30051 hJ30052 => ?_)
   replace hle := hle.trans hJ30052
   replace hr22045 := hr22045.mono hJ30052
   obtain ⟨rfl, rfl⟩ := hq30051
   refine at_xS (fun w hs => ⟨hs.var (k := 0) rfl 0 rfl, hs.var (k := 0) rfl 1 rfl⟩) ?_
   by_cases h30053 : b8 = true
   ·
    rw [if_pos h30053] at H
    refine at_xweak (S' := fun w => w.cell? ⟨g22046, 0, none⟩ = some (iV p22042.Rows) ∧ w.cell? ⟨g22046, 1, none⟩ = some (iV p22042.Cols) ∧ w.cell? ⟨g22046, 2, none⟩ = some (.slice A22043 p22042.Cells.length c22044) ∧ w.cell? ⟨g22046, 0, none⟩ = some (iV p22042.Rows) ∧ w.cell? ⟨g22046, 1, none⟩ = some (iV p22042.Cols)) (fun w h_ => ⟨h_.1, h_.2.1⟩) ?_
    refine at_xseg [8, 9, 10, 11, 12, 14, 15, 16, 17, 18] 39 (#[true, true, true, true, true, true, true, true, true, true, true, true, true, false, true, true, true, true, true, false, false, false, false, false, false, false, false, false, false, false, false, false, false, false, false, false, false, false, false, false, false, false, false, false, false, false, false, false, false, false, false, false, false, false, false, false, false]) rfl (by kernel_rfl) [(10, .bool false), (12, .slice A22043 p22042.Cells.length c22044), (15, iV p22042.Rows), (17, iV p22042.Cols)] [1, 15, 17, 23] (L2 := [(1, .pointer (some ⟨g22046, 0, none⟩)), (15, .bool false), (17, .slice A22043 p22042.Cells.length c22044), (23, iV (IntKind.i64.wrap (p22042.Rows * p22042.Cols)))]) (obs := [fun _ => (.bool (!b8) : Value) = .bool false, fun w => w.cell? ⟨g22046, 2, none⟩ = some (.slice A22043 p22042.Cells.length c22044), fun w => w.cell? ⟨g22046, 0, none⟩ = some (iV p22042.Rows), fun w => w.cell? ⟨g22046, 1, none⟩ = some (iV p22042.Cols)]) (by kernel_rfl) (by kernel_rfl) (by kernel_rfl) (.inr fun w hs => ⟨hs.var (k := 0) rfl 0 rfl, hs.var (k := 0) rfl 1 rfl, hs.var (k := 0) rfl 2 rfl, hs.var (k := 0) rfl 0 rfl, hs.var (k := 0) rfl 1 rfl⟩) (fun w hS => ⟨congrArg Value.bool (not_ff (h30053)), hS.2.2.1, hS.2.2.2.1, hS.2.2.2.2⟩) (fun w hs => ⟨congrArg Value.bool (not_ff (h30053)), hs.var (k := 0) rfl 2 rfl, hs.var (k := 0) rfl 0 rfl, hs.var (k := 0) rfl 1 rfl⟩) ?_
    refine at_x1 38 13 (#[true, true, true, true, true, true, true, true, true, true, true, true, true, true, true, true, true, true, true, false, false, false, false, false, false, false, false, false, false, false, false, false, false, false, false, false, false, false, false, false, false, false, false, false, false, false, false, false, false, false, false, false, false, false, false, false, false]) rfl (by kernel_rfl) (by kernel_rfl) rfl rfl ?_
    obtain ⟨b9, H36047, H⟩ := bind_some H
    have hm_ := impl_Cell.calls (I0 := J30049) H36047 hr22045
    refine eff_call rfl rfl ok39 rfl rfl (show Meets Try.prog 39 ([.slice A22043 p22042.Cells.length c22044] : List Value).toArray _ [] _ from hm_) (Mr := ([(g22046, .cells #[iV p22042.Rows, iV p22042.Cols, .slice A22043 p22042.Cells.length c22044, iV p22042.Row, iV p22042.Col, .bool p22042.Hang, iV p22042.Attr] 38 (0, 0))] :: Fs)) (List.Perm.refl _) (fun v36048 J36049 M36050 hq36051 hJ36052 => ?_)
    replace hle := hle.trans hJ36052
    replace hr22045 := hr22045.mono hJ36052
    obtain ⟨rfl, rfl⟩ := hq36051
    refine at_xS (fun w hs => ⟨hs.var (k := 0) rfl 0 rfl, hs.var (k := 0) rfl 1 rfl, hs.var (k := 0) rfl 2 rfl, hs.var (k := 0) rfl 0 rfl, hs.var (k := 0) rfl 1 rfl⟩) ?_
    by_cases h36053 : b9 = (IntKind.i64.wrap (p22042.Rows * p22042.Cols))
    ·
     rw [if_pos h36053] at H
     refine at_xweak (S' := fun w => w.cell? ⟨g22046, 0, none⟩ = some (iV p22042.Rows) ∧ w.cell? ⟨g22046, 1, none⟩ = some (iV p22042.Cols) ∧ w.cell? ⟨g22046, 2, none⟩ = some (.slice A22043 p22042.Cells.length c22044) ∧ w.cell? ⟨g22046, 0, none⟩ = some (iV p22042.Rows) ∧ w.cell? ⟨g22046, 1, none⟩ = some (iV p22042.Cols) ∧ w.cell? ⟨g22046, 3, none⟩ = some (iV p22042.Row) ∧ w.cell? ⟨g22046, 0, none⟩ = some (iV p22042.Rows)) (fun w h_ => ⟨h_.1, h_.2.1, h_.2.2.1, h_.2.2.2.1, h_.2.2.2.2.1⟩) ?_
     refine at_xseg [19, 20, 21, 22, 23, 24, 25, 26] 30 (#[true, true, true, true, true, true, true, true, true, true, true, true, true, true, true, true, true, true, true, true, true, true, true, true, true, true, true, false, false, false, false, false, false, false, false, false, false, false, false, false, false, false, false, false, false, false, false, false, false, false, false, false, false, false, false, false, false]) rfl (by kernel_rfl) [(21, .bool false), (23, iV p22042.Row), (25, iV p22042.Rows)] [1, 26, 28, 31] (L2 := [(1, .pointer (some ⟨g22046, 0, none⟩)), (26, .bool false), (28, iV p22042.Row), (31, iV (IntKind.i64.wrap (p22042.Rows - 1)))]) (obs := [fun _ => (.bool (b9 != (IntKind.i64.wrap (p22042.Rows * p22042.Cols))) : Value) = .bool false, fun w => w.cell? ⟨g22046, 3, none⟩ = some (iV p22042.Row), fun w => w.cell? ⟨g22046, 0, none⟩ = some (iV p22042.Rows)]) (by kernel_rfl) (by kernel_rfl) (by kernel_rfl) (.inr fun w hs => ⟨hs.var (k := 0) rfl 0 rfl, hs.var (k := 0) rfl 1 rfl, hs.var (k := 0) rfl 2 rfl, hs.var (k := 0) rfl 0 rfl, hs.var (k := 0) rfl 1 rfl, hs.var (k := 0) rfl 3 rfl, hs.var (k := 0) rfl 0 rfl⟩) (fun w hS => ⟨congrArg Value.bool (bne_eq_false_iff_eq.2 h36053), hS.2.2.2.2.2.1, hS.2.2.2.2.2.2⟩) (fun w hs => ⟨congrArg Value.bool (bne_eq_false_iff_eq.2 h36053), hs.var (k := 0) rfl 3 rfl, hs.var (k := 0) rfl 0 rfl⟩) ?_
     refine at_x1 29 27 (#[true, true, true, true, true, true, true, true, true, true, true, true, true, true, true, true, true, true, true, true, true, true, true, true, true, true, true, true, false, false, false, false, false, false, false, false, false, false, false, false, false, false, false, false, false, false, false, false, false, false, false, false, false, false, false, false, false]) rfl (by kernel_rfl) (by kernel_rfl) rfl rfl ?_
     obtain ⟨b10, H50047, H⟩ := bind_some H
     have hm_ := impl_within.calls (I0 := J36049) H50047
     refine eff_call rfl rfl ok36 rfl rfl (show Meets Try.prog 36 ([iV p22042.Row, iV 0, iV (IntKind.i64.wrap (p22042.Rows - 1))] : List Value).toArray _ [] _ from hm_) (Mr := ([(g22046, .cells #[iV p22042.Rows, iV p22042.Cols, .slice A22043 p22042.Cells.length c22044, iV p22042.Row, iV p22042.Col, .bool p22042.Hang, iV p22042.Attr] 38 (0, 0))] :: Fs)) (List.Perm.refl _) (fun v50048 J50049 M50050 hq50051 hJ50052 => ?_)
     replace hle := hle.trans hJ50052
     replace hr22045 := hr22045.mono hJ50052
     obtain ⟨rfl, rfl⟩ := hq50051
     refine at_xS (fun w hs => ⟨hs.var (k := 0) rfl 0 rfl, hs.var (k := 0) rfl 1 rfl, hs.var (k := 0) rfl 2 rfl, hs.var (k := 0) rfl 0 rfl, hs.var (k := 0) rfl 1 rfl, hs.var (k := 0) rfl 3 rfl, hs.var (k := 0) rfl 0 rfl⟩) ?_
     by_cases h50053 : b10 = true
     ·
      rw [if_pos h50053] at H
      refine at_xweak (S' := fun w => w.cell? ⟨g22046, 0, none⟩ = some (iV p22042.Rows) ∧ w.cell? ⟨g22046, 1, none⟩ = some (iV p22042.Cols) ∧ w.cell? ⟨g22046, 2, none⟩ = some (.slice A22043 p22042.Cells.length c22044) ∧ w.cell? ⟨g22046, 0, none⟩ = some (iV p22042.Rows) ∧ w.cell? ⟨g22046, 1, none⟩ = some (iV p22042.Cols) ∧ w.cell? ⟨g22046, 3, none⟩ = some (iV p22042.Row) ∧ w.cell? ⟨g22046, 0, none⟩ = some (iV p22042.Rows) ∧ w.cell? ⟨g22046, 4, none⟩ = some (iV p22042.Col) ∧ w.cell? ⟨g22046, 1, none⟩ = some (iV p22042.Cols)) (fun w h_ => ⟨h_.1, h_.2.1, h_.2.2.1, h_.2.2.2.1, h_.2.2.2.2.1, h_.2.2.2.2.2.1, h_.2.2.2.2.2.2.1⟩) ?_
      refine at_xseg [28, 29, 30, 31, 32, 33, 34, 35] 21 (#[true, true, true, true, true, true, true, true, true, true, true, true, true, true, true, true, true, true, true, true, true, true, true, true, true, true, true, true, true, true, true, true, true, true, true, true, false, false, false, false, false, false, false, false, false, false, false, false, false, false, false, false, false, false, false, false, false]) rfl (by kernel_rfl) [(30, .bool false), (32, iV p22042.Col), (34, iV p22042.Cols)] [1, 35, 37, 40] (L2 := [(1, .pointer (some ⟨g22046, 0, none⟩)), (35, .bool false), (37, iV p22042.Col), (40, iV (IntKind.i64.wrap (p22042.Cols - 1)))]) (obs := [fun _ => (.bool (!b10) : Value) = .bool false, fun w => w.cell? ⟨g22046, 4, none⟩ = some (iV p22042.Col), fun w => w.cell? ⟨g22046, 1, none⟩ = some (iV p22042.Cols)]) (by kernel_rfl) (by kernel_rfl) (by kernel_rfl) (.inr fun w hs => ⟨hs.var (k := 0) rfl 0 rfl, hs.var (k := 0) rfl 1 rfl, hs.var (k := 0) rfl 2 rfl, hs.var (k := 0) rfl 0 rfl, hs.var (k := 0) rfl 1 rfl, hs.var (k := 0) rfl 3 rfl, hs.var (k := 0) rfl 0 rfl, hs.var (k := 0) rfl 4 rfl, hs.var (k := 0) rfl 1 rfl⟩) (fun w hS => ⟨congrArg Value.bool (not_ff (h50053)), hS.2.2.2.2.2.2.2.1, hS.2.2.2.2.2.2.2.2⟩) (fun w hs => ⟨congrArg Value.bool (not_ff (h50053)), hs.var (k := 0) rfl 4 rfl, hs.var (k := 0) rfl 1 rfl⟩) ?_
      refine at_x1 20 36 (#[true, true, true, true, true, true, true, true, true, true, true, true, true, true, true, true, true, true, true, true, true, true, true, true, true, true, true, true, true, true, true, true, true, true, true, true, true, false, false, false, false, false, false, false, false, false, false, false, false, false, false, false, false, false, false, false, false]) rfl (by kernel_rfl) (by kernel_rfl) rfl rfl ?_
      obtain ⟨b11, H59047, H⟩ := bind_some H
      have hm_ := impl_within.calls (I0 := J50049) H59047
      refine eff_call rfl rfl ok36 rfl rfl (show Meets Try.prog 36 ([iV p22042.Col, iV 0, iV (IntKind.i64.wrap (p22042.Cols - 1))] : List Value).toArray _ [] _ from hm_) (Mr := ([(g22046, .cells #[iV p22042.Rows, iV p22042.Cols, .slice A22043 p22042.Cells.length c22044, iV p22042.Row, iV p22042.Col, .bool p22042.Hang, iV p22042.Attr] 38 (0, 0))] :: Fs)) (List.Perm.refl _) (fun v59048 J59049 M59050 hq59051 hJ59052 => ?_)
      replace hle := hle.trans hJ59052
      replace hr22045 := hr22045.mono hJ59052
      obtain ⟨rfl, rfl⟩ := hq59051
      refine at_xS (fun w hs => ⟨hs.var (k := 0) rfl 0 rfl, hs.var (k := 0) rfl 1 rfl, hs.var (k := 0) rfl 2 rfl, hs.var (k := 0) rfl 0 rfl, hs.var (k := 0) rfl 1 rfl, hs.var (k := 0) rfl 3 rfl, hs.var (k := 0) rfl 0 rfl, hs.var (k := 0) rfl 4 rfl, hs.var (k := 0) rfl 1 rfl⟩) ?_
      by_cases h59053 : b11 = true
      ·
       rw [if_pos h59053] at H
       by_cases h59054 : p22042.Hang = true
       ·
        rw [if_pos h59054] at H
        by_cases h59055 : p22042.Col = (IntKind.i64.wrap (p22042.Cols - 1))
        ·
         rw [if_pos h59055] at H
         refine at_xweak (S' := fun w => w.cell? ⟨g22046, 0, none⟩ = some (iV p22042.Rows) ∧ w.cell? ⟨g22046, 1, none⟩ = some (iV p22042.Cols) ∧ w.cell? ⟨g22046, 2, none⟩ = some (.slice A22043 p22042.Cells.length c22044) ∧ w.cell? ⟨g22046, 0, none⟩ = some (iV p22042.Rows) ∧ w.cell? ⟨g22046, 1, none⟩ = some (iV p22042.Cols) ∧ w.cell? ⟨g22046, 3, none⟩ = some (iV p22042.Row) ∧ w.cell? ⟨g22046, 0, none⟩ = some (iV p22042.Rows) ∧ w.cell? ⟨g22046, 4, none⟩ = some (iV p22042.Col) ∧ w.cell? ⟨g22046, 1, none⟩ = some (iV p22042.Cols) ∧ w.cell? ⟨g22046, 5, none⟩ = some (.bool p22042.Hang) ∧ w.cell? ⟨g22046, 4, none⟩ = some (iV p22042.Col) ∧ w.cell? ⟨g22046, 1, none⟩ = some (iV p22042.Cols) ∧ w.cell? ⟨g22046, 6, none⟩ = some (iV p22042.Attr)) (fun w h_ => ⟨h_.1, h_.2.1, h_.2.2.1, h_.2.2.2.1, h_.2.2.2.2.1, h_.2.2.2.2.2.1, h_.2.2.2.2.2.2.1, h_.2.2.2.2.2.2.2.1, h_.2.2.2.2.2.2.2.2.1⟩) ?_
         refine at_xseg [37, 38, 39, 40, 41, 42, 43, 44, 45, 46, 47, 48, 49, 50, 51, 52, 53] 3 (#[true, true, true, true, true, true, true, true, true, true, true, true, true, true, true, true, true, true, true, true, true, true, true, true, true, true, true, true, true, true, true, true, true, true, true, true, true, true, true, true, true, true, true, true, true, true, true, true, true, true, true, true, true, true, false, false, false]) rfl (by kernel_rfl) [(39, .bool false), (41, .bool p22042.Hang), (42, .bool true), (44, iV p22042.Col), (46, iV p22042.Cols), (51, .bool false), (53, iV p22042.Attr)] [1, 56, 58] (L2 := [(1, .pointer (some ⟨g22046, 0, none⟩)), (56, .bool false), (58, iV p22042.Attr)]) (obs := [fun _ => (.bool (!b11) : Value) = .bool false, fun w => w.cell? ⟨g22046, 5, none⟩ = some (.bool p22042.Hang), fun _ => (.bool p22042.Hang : Value) = .bool true, fun w => w.cell? ⟨g22046, 4, none⟩ = some (iV p22042.Col), fun w => w.cell? ⟨g22046, 1, none⟩ = some (iV p22042.Cols), fun _ => (.bool (p22042.Col != (IntKind.i64.wrap (p22042.Cols - 1))) : Value) = .bool false, fun w => w.cell? ⟨g22046, 6, none⟩ = some (iV p22042.Attr)]) (by kernel_rfl) (by kernel_rfl) (by kernel_rfl) (.inr fun w hs => ⟨hs.var (k := 0) rfl 0 rfl, hs.var (k := 0) rfl 1 rfl, hs.var (k := 0) rfl 2 rfl, hs.var (k := 0) rfl 0 rfl, hs.var (k := 0) rfl 1 rfl, hs.var (k := 0) rfl 3 rfl, hs.var (k := 0) rfl 0 rfl, hs.var (k := 0) rfl 4 rfl, hs.var (k := 0) rfl 1 rfl, hs.var (k := 0) rfl 5 rfl, hs.var (k := 0) rfl 4 rfl, hs.var (k := 0) rfl 1 rfl, hs.var (k := 0) rfl 6 rfl⟩) (fun w hS => ⟨congrArg Value.bool (not_ff (h59053)), hS.2.2.2.2.2.2.2.2.2.1, congrArg Value.bool (h59054), hS.2.2.2.2.2.2.2.2.2.2.1, hS.2.2.2.2.2.2.2.2.2.2.2.1, congrArg Value.bool (bne_eq_false_iff_eq.2 h59055), hS.2.2.2.2.2.2.2.2.2.2.2.2⟩) (fun w hs => ⟨congrArg Value.bool (not_ff (h59053)), hs.var (k := 0) rfl 5 rfl, congrArg Value.bool (h59054), hs.var (k := 0) rfl 4 rfl, hs.var (k := 0) rfl 1 rfl, congrArg Value.bool (bne_eq_false_iff_eq.2 h59055), hs.var (k := 0) rfl 6 rfl⟩) ?_
         refine at_x1 2 54 (#[true, true, true, true, true, true, true, true, true, true, true, true, true, true, true, true, true, true, true, true, true, true, true, true, true, true, true, true, true, true, true, true, true, true, true, true, true, true, true, true, true, true, true, true, true, true, true, true, true, true, true, true, true, true, true, false, false]) rfl (by kernel_rfl) (by kernel_rfl) rfl rfl ?_
         obtain ⟨b12, H77047, H⟩ := bind_some H
         have hm_ := impl_within.calls (I0 := J59049) H77047
         refine eff_call rfl rfl ok36 rfl rfl (show Meets Try.prog 36 ([iV p22042.Attr, iV 0, iV 3] : List Value).toArray _ [] _ from hm_) (Mr := ([(g22046, .cells #[iV p22042.Rows, iV p22042.Cols, .slice A22043 p22042.Cells.length c22044, iV p22042.Row, iV p22042.Col, .bool p22042.Hang, iV p22042.Attr] 38 (0, 0))] :: Fs)) (List.Perm.refl _) (fun v77048 J77049 M77050 hq77051 hJ77052 => ?_)
         replace hle := hle.trans hJ77052
         replace hr22045 := hr22045.mono hJ77052
         obtain ⟨rfl, rfl⟩ := hq77051
         refine at_xS (fun w hs => ⟨hs.var (k := 0) rfl 0 rfl, hs.var (k := 0) rfl 1 rfl, hs.var (k := 0) rfl 2 rfl, hs.var (k := 0) rfl 0 rfl, hs.var (k := 0) rfl 1 rfl, hs.var (k := 0) rfl 3 rfl, hs.var (k := 0) rfl 0 rfl, hs.var (k := 0) rfl 4 rfl, hs.var (k := 0) rfl 1 rfl, hs.var (k := 0) rfl 5 rfl, hs.var (k := 0) rfl 4 rfl, hs.var (k := 0) rfl 1 rfl, hs.var (k := 0) rfl 6 rfl⟩) ?_
         refine at_xseg [55, 56] 0 (#[true, true, true, true, true, true, true, true, true, true, true, true, true, true, true, true, true, true, true, true, true, true, true, true, true, true, true, true, true, true, true, true, true, true, true, true, true, true, true, true, true, true, true, true, true, true, true, true, true, true, true, true, true, true, true, true, true]) rfl (by kernel_rfl) [] [1, 61] (L2 := [(1, .pointer (some ⟨g22046, 0, none⟩)), (61, .bool (!b12))]) (obs := []) (by kernel_rfl) (by kernel_rfl) (by kernel_rfl) (.inr fun w hs => ⟨hs.var (k := 0) rfl 0 rfl, hs.var (k := 0) rfl 1 rfl, hs.var (k := 0) rfl 2 rfl, hs.var (k := 0) rfl 0 rfl, hs.var (k := 0) rfl 1 rfl, hs.var (k := 0) rfl 3 rfl, hs.var (k := 0) rfl 0 rfl, hs.var (k := 0) rfl 4 rfl, hs.var (k := 0) rfl 1 rfl, hs.var (k := 0) rfl 5 rfl, hs.var (k := 0) rfl 4 rfl, hs.var (k := 0) rfl 1 rfl, hs.var (k := 0) rfl 6 rfl⟩) (fun w hS => trivial) (fun w hs => trivial) ?_
         refine at_xend (by kernel_rfl) ?_
         refine at_thn ?_
         by_cases h81047 : b12 = true
         ·
          rw [if_pos h81047] at H
          refine at_cond_f rfl (not_ff (h81047)) ?_
          refine at_skip (at_thn (at_keep [1] (L2 := [(1, .pointer (some ⟨g22046, 0, none⟩))]) rfl ?_))
          exact Jn22047 _ _ _ ⟨_, rfl, rfl, H, hle, by omega, hr22045⟩
         ·
          rw [if_neg h81047] at H
          refine at_cond_t rfl (not_tt (ff_of h81047)) ?_
          refine at_seq (at_reg0 [] [2] [(2, .bool false)] ?_)
          refine at_thn (at_ret (at_then_ret ?_))
          obtain rfl := Option.some.inj H
          refine at_drop (k := 0) rfl rfl ?_
          exact at_done0 [.bool false] (.inl rfl) [.tmp 2] fun w hs => ⟨_, _, [], rfl, ⟨rfl, rfl⟩, hle, hs⟩
        ·
         rw [if_neg h59055] at H
         refine at_xweak (S' := fun w => w.cell? ⟨g22046, 0, none⟩ = some (iV p22042.Rows) ∧ w.cell? ⟨g22046, 1, none⟩ = some (iV p22042.Cols) ∧ w.cell? ⟨g22046, 2, none⟩ = some (.slice A22043 p22042.Cells.length c22044) ∧ w.cell? ⟨g22046, 0, none⟩ = some (iV p22042.Rows) ∧ w.cell? ⟨g22046, 1, none⟩ = some (iV p22042.Cols) ∧ w.cell? ⟨g22046, 3, none⟩ = some (iV p22042.Row) ∧ w.cell? ⟨g22046, 0, none⟩ = some (iV p22042.Rows) ∧ w.cell? ⟨g22046, 4, none⟩ = some (iV p22042.Col) ∧ w.cell? ⟨g22046, 1, none⟩ = some (iV p22042.Cols) ∧ w.cell? ⟨g22046, 5, none⟩ = some (.bool p22042.Hang) ∧ w.cell? ⟨g22046, 4, none⟩ = some (iV p22042.Col) ∧ w.cell? ⟨g22046, 1, none⟩ = some (iV p22042.Cols)) (fun w h_ => ⟨h_.1, h_.2.1, h_.2.2.1, h_.2.2.2.1, h_.2.2.2.2.1, h_.2.2.2.2.2.1, h_.2.2.2.2.2.2.1, h_.2.2.2.2.2.2.2.1, h_.2.2.2.2.2.2.2.2.1⟩) ?_
         refine at_xseg [37, 38, 39, 40, 41, 42, 43, 44, 45, 46, 47, 48, 49, 50, 51, 52, 53] 3 (#[true, true, true, true, true, true, true, true, true, true, true, true, true, true, true, true, true, true, true, true, true, true, true, true, true, true, true, true, true, true, true, true, true, true, true, true, true, true, true, true, true, true, true, true, true, true, true, true, true, true, true, true, true, true, false, false, false]) rfl (by kernel_rfl) [(39, .bool false), (41, .bool p22042.Hang), (42, .bool true), (44, iV p22042.Col), (46, iV p22042.Cols), (51, .bool true)] [1, 56, 58] (L2 := [(1, .pointer (some ⟨g22046, 0, none⟩)), (56, .bool true), (58, undef)]) (obs := [fun _ => (.bool (!b11) : Value) = .bool false, fun w => w.cell? ⟨g22046, 5, none⟩ = some (.bool p22042.Hang), fun _ => (.bool p22042.Hang : Value) = .bool true, fun w => w.cell? ⟨g22046, 4, none⟩ = some (iV p22042.Col), fun w => w.cell? ⟨g22046, 1, none⟩ = some (iV p22042.Cols), fun _ => (.bool (p22042.Col != (IntKind.i64.wrap (p22042.Cols - 1))) : Value) = .bool true]) (by kernel_rfl) (by kernel_rfl) (by kernel_rfl) (.inr fun w hs => ⟨hs.var (k := 0) rfl 0 rfl, hs.var (k := 0) rfl 1 rfl, hs.var (k := 0) rfl 2 rfl, hs.var (k := 0) rfl 0 rfl, hs.var (k := 0) rfl 1 rfl, hs.var (k := 0) rfl 3 rfl, hs.var (k := 0) rfl 0 rfl, hs.var (k := 0) rfl 4 rfl, hs.var (k := 0) rfl 1 rfl, hs.var (k := 0) rfl 5 rfl, hs.var (k := 0) rfl 4 rfl, hs.var (k := 0) rfl 1 rfl⟩) (fun w hS => ⟨congrArg Value.bool (not_ff (h59053)), hS.2.2.2.2.2.2.2.2.2.1, congrArg Value.bool (h59054), hS.2.2.2.2.2.2.2.2.2.2.1, hS.2.2.2.2.2.2.2.2.2.2.2, congrArg Value.bool (bne_iff_ne.2 h59055)⟩) (fun w hs => ⟨congrArg Value.bool (not_ff (h59053)), hs.var (k := 0) rfl 5 rfl, congrArg Value.bool (h59054), hs.var (k := 0) rfl 4 rfl, hs.var (k := 0) rfl 1 rfl, congrArg Value.bool (bne_iff_ne.2 h59055)⟩) ?_
         refine at_xseg [54, 55, 56] 0 (#[true, true, true, true, true, true, true, true, true, true, true, true, true, true, true, true, true, true, true, true, true, true, true, true, true, true, true, true, true, true, true, true, true, true, true, true, true, true, true, true, true, true, true, true, true, true, true, true, true, true, true, true, true, true, true, true, true]) rfl (by kernel_rfl) [] [1, 61] (L2 := [(1, .pointer (some ⟨g22046, 0, none⟩)), (61, .bool true)]) (obs := []) (by kernel_rfl) (by kernel_rfl) (by kernel_rfl) (.inr fun w hs => ⟨hs.var (k := 0) rfl 0 rfl, hs.var (k := 0) rfl 1 rfl, hs.var (k := 0) rfl 2 rfl, hs.var (k := 0) rfl 0 rfl, hs.var (k := 0) rfl 1 rfl, hs.var (k := 0) rfl 3 rfl, hs.var (k := 0) rfl 0 rfl, hs.var (k := 0) rfl 4 rfl, hs.var (k := 0) rfl 1 rfl, hs.var (k := 0) rfl 5 rfl, hs.var (k := 0) rfl 4 rfl, hs.var (k := 0) rfl 1 rfl⟩) (fun w hS => trivial) (fun w hs => trivial) ?_
         refine at_xend (by kernel_rfl) ?_
         refine at_thn (at_cond_t rfl (rfl) ?_)
         refine at_seq (at_reg0 [] [2] [(2, .bool false)] ?_)
         refine at_thn (at_ret (at_then_ret ?_))
         obtain rfl := Option.some.inj H
         refine at_drop (k := 0) rfl rfl ?_
         exact at_done0 [.bool false] (.inl rfl) [.tmp 2] fun w hs => ⟨_, _, [], rfl, ⟨rfl, rfl⟩, hle, hs⟩
       ·
        rw [if_neg h59054] at H
        refine at_xweak (S' := fun w => w.cell? ⟨g22046, 0, none⟩ = some (iV p22042.Rows) ∧ w.cell? ⟨g22046, 1, none⟩ = some (iV p22042.Cols) ∧ w.cell? ⟨g22046, 2, none⟩ = some (.slice A22043 p22042.Cells.length c22044) ∧ w.cell? ⟨g22046, 0, none⟩ = some (iV p22042.Rows) ∧ w.cell? ⟨g22046, 1, none⟩ = some (iV p22042.Cols) ∧ w.cell? ⟨g22046, 3, none⟩ = some (iV p22042.Row) ∧ w.cell? ⟨g22046, 0, none⟩ = some (iV p22042.Rows) ∧ w.cell? ⟨g22046, 4, none⟩ = some (iV p22042.Col) ∧ w.cell? ⟨g22046, 1, none⟩ = some (iV p22042.Cols) ∧ w.cell? ⟨g22046, 5, none⟩ = some (.bool p22042.Hang) ∧ w.cell? ⟨g22046, 6, none⟩ = some (iV p22042.Attr)) (fun w h_ => ⟨h_.1, h_.2.1, h_.2.2.1, h_.2.2.2.1, h_.2.2.2.2.1, h_.2.2.2.2.2.1, h_.2.2.2.2.2.2.1, h_.2.2.2.2.2.2.2.1, h_.2.2.2.2.2.2.2.2.1⟩) ?_
        refine at_xseg [37, 38, 39, 40, 41, 42, 43, 44, 45, 46, 47, 48, 49, 50, 51, 52, 53] 3 (#[true, true, true, true, true, true, true, true, true, true, true, true, true, true, true, true, true, true, true, true, true, true, true, true, true, true, true, true, true, true, true, true, true, true, true, true, true, true, true, true, true, true, true, true, true, true, true, true, true, true, true, true, true, true, false, false, false]) rfl (by kernel_rfl) [(39, .bool false), (41, .bool p22042.Hang), (42, .bool false), (53, iV p22042.Attr)] [1, 56, 58] (L2 := [(1, .pointer (some ⟨g22046, 0, none⟩)), (56, .bool false), (58, iV p22042.Attr)]) (obs := [fun _ => (.bool (!b11) : Value) = .bool false, fun w => w.cell? ⟨g22046, 5, none⟩ = some (.bool p22042.Hang), fun _ => (.bool p22042.Hang : Value) = .bool false, fun w => w.cell? ⟨g22046, 6, none⟩ = some (iV p22042.Attr)]) (by kernel_rfl) (by kernel_rfl) (by kernel_rfl) (.inr fun w hs => ⟨hs.var (k := 0) rfl 0 rfl, hs.var (k := 0) rfl 1 rfl, hs.var (k := 0) rfl 2 rfl, hs.var (k := 0) rfl 0 rfl, hs.var (k := 0) rfl 1 rfl, hs.var (k := 0) rfl 3 rfl, hs.var (k := 0) rfl 0 rfl, hs.var (k := 0) rfl 4 rfl, hs.var (k := 0) rfl 1 rfl, hs.var (k := 0) rfl 5 rfl, hs.var (k := 0) rfl 6 rfl⟩) (fun w hS => ⟨congrArg Value.bool (not_ff (h59053)), hS.2.2.2.2.2.2.2.2.2.1, congrArg Value.bool (ff_of h59054), hS.2.2.2.2.2.2.2.2.2.2⟩) (fun w hs => ⟨congrArg Value.bool (not_ff (h59053)), hs.var (k := 0) rfl 5 rfl, congrArg Value.bool (ff_of h59054), hs.var (k := 0) rfl 6 rfl⟩) ?_
        refine at_x1 2 54 (#[true, true, true, true, true, true, true, true, true, true, true, true, true, true, true, true, true, true, true, true, true, true, true, true, true, true, true, true, true, true, true, true, true, true, true, true, true, true, true, true, true, true, true, true, true, true, true, true, true, true, true, true, true, true, true, false, false]) rfl (by kernel_rfl) (by kernel_rfl) rfl rfl ?_
        obtain ⟨b13, H77047, H⟩ := bind_some H
        have hm_ := impl_within.calls (I0 := J59049) H77047
        refine eff_call rfl rfl ok36 rfl rfl (show Meets Try.prog 36 ([iV p22042.Attr, iV 0, iV 3] : List Value).toArray _ [] _ from hm_) (Mr := ([(g22046, .cells #[iV p22042.Rows, iV p22042.Cols, .slice A22043 p22042.Cells.length c22044, iV p22042.Row, iV p22042.Col, .bool p22042.Hang, iV p22042.Attr] 38 (0, 0))] :: Fs)) (List.Perm.refl _) (fun v77048 J77049 M77050 hq77051 hJ77052 => ?_)
        replace hle := hle.trans hJ77052
        replace hr22045 := hr22045.mono hJ77052
        obtain ⟨rfl, rfl⟩ := hq77051
        refine at_xS (fun w hs => ⟨hs.var (k := 0) rfl 0 rfl, hs.var (k := 0) rfl 1 rfl, hs.var (k := 0) rfl 2 rfl, hs.var (k := 0) rfl 0 rfl, hs.var (k := 0) rfl 1 rfl, hs.var (k := 0) rfl 3 rfl, hs.var (k := 0) rfl 0 rfl, hs.var (k := 0) rfl 4 rfl, hs.var (k := 0) rfl 1 rfl, hs.var (k := 0) rfl 5 rfl, hs.var (k := 0) rfl 6 rfl⟩) ?_
        refine at_xseg [55, 56] 0 (#[true, true, true, true, true, true, true, true, true, true, true, true, true, true, true, true, true, true, true, true, true, true, true, true, true, true, true, true, true, true, true, true, true, true, true, true, true, true, true, true, true, true, true, true, true, true, true, true, true, true, true, true, true, true, true, true, true]) rfl (by kernel_rfl) [] [1, 61] (L2 := [(1, .pointer (some ⟨g22046, 0, none⟩)), (61, .bool (!b13))]) (obs := []) (by kernel_rfl) (by kernel_rfl) (by kernel_rfl) (.inr fun w hs => ⟨hs.var (k := 0) rfl 0 rfl, hs.var (k := 0) rfl 1 rfl, hs.var (k := 0) rfl 2 rfl, hs.var (k := 0) rfl 0 rfl, hs.var (k := 0) rfl 1 rfl, hs.var (k := 0) rfl 3 rfl, hs.var (k := 0) rfl 0 rfl, hs.var (k := 0) rfl 4 rfl, hs.var (k := 0) rfl 1 rfl, hs.var (k := 0) rfl 5 rfl, hs.var (k := 0) rfl 6 rfl⟩) (fun w hS => trivial) (fun w hs => trivial) ?_
        refine at_xend (by kernel_rfl) ?_
        refine at_thn ?_
        by_cases h81047 : b13 = true
        ·
         rw [if_pos h81047] at H
         refine at_cond_f rfl (not_ff (h81047)) ?_
         refine at_skip (at_thn (at_keep [1] (L2 := [(1, .pointer (some ⟨g22046, 0, none⟩))]) rfl ?_))
         exact Jn22047 _ _ _ ⟨_, rfl, rfl, H, hle, by omega, hr22045⟩
        ·
         rw [if_neg h81047] at H
         refine at_cond_t rfl (not_tt (ff_of h81047)) ?_
         refine at_seq (at_reg0 [] [2] [(2, .bool false)] ?_)
         refine at_thn (at_ret (at_then_ret ?_))
         obtain rfl := Option.some.inj H
         refine at_drop (k := 0) rfl rfl ?_
         exact at_done0 [.bool false] (.inl rfl) [.tmp 2] fun w hs => ⟨_, _, [], rfl, ⟨rfl, rfl⟩, hle, hs⟩
      ·
       rw [if_neg h59053] at H
       refine at_xseg [37, 38, 39, 40, 41, 42, 43, 44, 45, 46, 47, 48, 49, 50, 51, 52, 53] 3 (#[true, true, true, true, true, true, true, true, true, true, true, true, true, true, true, true, true, true, true, true, true, true, true, true, true, true, true, true, true, true, true, true, true, true, true, true, true, true, true, true, true, true, true, true, true, true, true, true, true, true, true, true, true, true, false, false, false]) rfl (by kernel_rfl) [(39, .bool true)] [1, 56, 58] (L2 := [(1, .pointer (some ⟨g22046, 0, none⟩)), (56, .bool true), (58, undef)]) (obs := [fun _ => (.bool (!b11) : Value) = .bool true]) (by kernel_rfl) (by kernel_rfl) (by kernel_rfl) (.inr fun w hs => ⟨hs.var (k := 0) rfl 0 rfl, hs.var (k := 0) rfl 1 rfl, hs.var (k := 0) rfl 2 rfl, hs.var (k := 0) rfl 0 rfl, hs.var (k := 0) rfl 1 rfl, hs.var (k := 0) rfl 3 rfl, hs.var (k := 0) rfl 0 rfl, hs.var (k := 0) rfl 4 rfl, hs.var (k := 0) rfl 1 rfl⟩) (fun w hS => congrArg Value.bool (not_tt (ff_of h59053))) (fun w hs => congrArg Value.bool (not_tt (ff_of h59053))) ?_
       refine at_xseg [54, 55, 56] 0 (#[true, true, true, true, true, true, true, true, true, true, true, true, true, true, true, true, true, true, true, true, true, true, true, true, true, true, true, true, true, true, true, true, true, true, true, true, true, true, true, true, true, true, true, true, true, true, true, true, true, true, true, true, true, true, true, true, true]) rfl (by kernel_rfl) [] [1, 61] (L2 := [(1, .pointer (some ⟨g22046, 0, none⟩)), (61, .bool true)]) (obs := []) (by kernel_rfl) (by kernel_rfl) (by kernel_rfl) (.inr fun w hs => ⟨hs.var (k := 0) rfl 0 rfl, hs.var (k := 0) rfl 1 rfl, hs.var (k := 0) rfl 2 rfl, hs.var (k := 0) rfl 0 rfl, hs.var (k := 0) rfl 1 rfl, hs.var (k := 0) rfl 3 rfl, hs.var (k := 0) rfl 0 rfl, hs.var (k := 0) rfl 4 rfl, hs.var (k := 0) rfl 1 rfl⟩) (fun w hS => trivial) (fun w hs => trivial) ?_
       refine at_xend (by kernel_rfl) ?_
       refine at_thn (at_cond_t rfl (rfl) ?_)
       refine at_seq (at_reg0 [] [2] [(2, .bool false)] ?_)
       refine at_thn (at_ret (at_then_ret ?_))
       obtain rfl := Option.some.inj H
       refine at_drop (k := 0) rfl rfl ?_
       exact at_done0 [.bool false] (.inl rfl) [.tmp 2] fun w hs => ⟨_, _, [], rfl, ⟨rfl, rfl⟩, hle, hs⟩
     ·
      rw [if_neg h50053] at H
      refine at_xseg [28, 29, 30, 31, 32, 33, 34, 35] 21 (#[true, true, true, true, true, true, true, true, true, true, true, true, true, true, true, true, true, true, true, true, true, true, true, true, true, true, true, true, true, true, true, true, true, true, true, true, false, false, false, false, false, false, false, false, false, false, false, false, false, false, false, false, false, false, false, false, false]) rfl (by kernel_rfl) [(30, .bool true)] [1, 35, 37, 40] (L2 := [(1, .pointer (some ⟨g22046, 0, none⟩)), (35, .bool true), (37, undef), (40, undef)]) (obs := [fun _ => (.bool (!b10) : Value) = .bool true]) (by kernel_rfl) (by kernel_rfl) (by kernel_rfl) (.inr fun w hs => ⟨hs.var (k := 0) rfl 0 rfl, hs.var (k := 0) rfl 1 rfl, hs.var (k := 0) rfl 2 rfl, hs.var (k := 0) rfl 0 rfl, hs.var (k := 0) rfl 1 rfl, hs.var (k := 0) rfl 3 rfl, hs.var (k := 0) rfl 0 rfl⟩) (fun w hS => congrArg Value.bool (not_tt (ff_of h50053))) (fun w hs => congrArg Value.bool (not_tt (ff_of h50053))) ?_
      refine at_xseg [36, 37, 38, 39, 40, 41, 42, 43, 44, 45, 46, 47, 48, 49, 50, 51, 52, 53] 3 (#[true, true, true, true, true, true, true, true, true, true, true, true, true, true, true, true, true, true, true, true, true, true, true, true, true, true, true, true, true, true, true, true, true, true, true, true, true, true, true, true, true, true, true, true, true, true, true, true, true, true, true, true, true, true, false, false, false]) rfl (by kernel_rfl) [] [1, 56, 58] (L2 := [(1, .pointer (some ⟨g22046, 0, none⟩)), (56, .bool true), (58, undef)]) (obs := []) (by kernel_rfl) (by kernel_rfl) (by kernel_rfl) (.inr fun w hs => ⟨hs.var (k := 0) rfl 0 rfl, hs.var (k := 0) rfl 1 rfl, hs.var (k := 0) rfl 2 rfl, hs.var (k := 0) rfl 0 rfl, hs.var (k := 0) rfl 1 rfl, hs.var (k := 0) rfl 3 rfl, hs.var (k := 0) rfl 0 rfl⟩) (fun w hS => trivial) (fun w hs => trivial) ?_
      refine at_xseg [54, 55, 56] 0 (#[true, true, true, true, true, true, true, true, true, true, true, true, true, true, true, true, true, true, true, true, true, true, true, true, true, true, true, true, true, true, true, true, true, true, true, true, true, true, true, true, true, true, true, true, true, true, true, true, true, true, true, true, true, true, true, true, true]) rfl (by kernel_rfl) [] [1, 61] (L2 := [(1, .pointer (some ⟨g22046, 0, none⟩)), (61, .bool true)]) (obs := []) (by kernel_rfl) (by kernel_rfl) (by kernel_rfl) (.inr fun w hs => ⟨hs.var (k := 0) rfl 0 rfl, hs.var (k := 0) rfl 1 rfl, hs.var (k := 0) rfl 2 rfl, hs.var (k := 0) rfl 0 rfl, hs.var (k := 0) rfl 1 rfl, hs.var (k := 0) rfl 3 rfl, hs.var (k := 0) rfl 0 rfl⟩) (fun w hS => trivial) (fun w hs => trivial) ?_
      refine at_xend (by kernel_rfl) ?_
      refine at_thn (at_cond_t rfl (rfl) ?_)
      refine at_seq (at_reg0 [] [2] [(2, .bool false)] ?_)
      refine at_thn (at_ret (at_then_ret ?_))
      obtain rfl := Option.some.inj H
      refine at_drop (k := 0) rfl rfl ?_
      exact at_done0 [.bool false] (.inl rfl) [.tmp 2] fun w hs => ⟨_, _, [], rfl, ⟨rfl, rfl⟩, hle, hs⟩
    ·
     rw [if_neg h36053] at H
     refine at_xseg [19, 20, 21, 22, 23, 24, 25, 26] 30 (#[true, true, true, true, true, true, true, true, true, true, true, true, true, true, true, true, true, true, true, true, true, true, true, true, true, true, true, false, false, false, false, false, false, false, false, false, false, false, false, false, false, false, false, false, false, false, false, false, false, false, false, false, false, false, false, false, false]) rfl (by kernel_rfl) [(21, .bool true)] [1, 26, 28, 31] (L2 := [(1, .pointer (some ⟨g22046, 0, none⟩)), (26, .bool true), (28, undef), (31, undef)]) (obs := [fun _ => (.bool (b9 != (IntKind.i64.wrap (p22042.Rows * p22042.Cols))) : Value) = .bool true]) (by kernel_rfl) (by kernel_rfl) (by kernel_rfl) (.inr fun w hs => ⟨hs.var (k := 0) rfl 0 rfl, hs.var (k := 0) rfl 1 rfl, hs.var (k := 0) rfl 2 rfl, hs.var (k := 0) rfl 0 rfl, hs.var (k := 0) rfl 1 rfl⟩) (fun w hS => congrArg Value.bool (bne_iff_ne.2 h36053)) (fun w hs => congrArg Value.bool (bne_iff_ne.2 h36053)) ?_
     refine at_xseg [27, 28, 29, 30, 31, 32, 33, 34, 35] 21 (#[true, true, true, true, true, true, true, true, true, true, true, true, true, true, true, true, true, true, true, true, true, true, true, true, true, true, true, true, true, true, true, true, true, true, true, true, false, false, false, false, false, false, false, false, false, false, false, false, false, false, false, false, false, false, false, false, false]) rfl (by kernel_rfl) [] [1, 35, 37, 40] (L2 := [(1, .pointer (some ⟨g22046, 0, none⟩)), (35, .bool true), (37, undef), (40, undef)]) (obs := []) (by kernel_rfl) (by kernel_rfl) (by kernel_rfl) (.inr fun w hs => ⟨hs.var (k := 0) rfl 0 rfl, hs.var (k := 0) rfl 1 rfl, hs.var (k := 0) rfl 2 rfl, hs.var (k := 0) rfl 0 rfl, hs.var (k := 0) rfl 1 rfl⟩) (fun w hS => trivial) (fun w hs => trivial) ?_
     refine at_xseg [36, 37, 38, 39, 40, 41, 42, 43, 44, 45, 46, 47, 48, 49, 50, 51, 52, 53] 3 (#[true, true, true, true, true, true, true, true, true, true, true, true, true, true, true, true, true, true, true, true, true, true, true, true, true, true, true, true, true, true, true, true, true, true, true, true, true, true, true, true, true, true, true, true, true, true, true, true, true, true, true, true, true, true, false, false, false]) rfl (by kernel_rfl) [] [1, 56, 58] (L2 := [(1, .pointer (some ⟨g22046, 0, none⟩)), (56, .bool true), (58, undef)]) (obs := []) (by kernel_rfl) (by kernel_rfl) (by kernel_rfl) (.inr fun w hs => ⟨hs.var (k := 0) rfl 0 rfl, hs.var (k := 0) rfl 1 rfl, hs.var (k := 0) rfl 2 rfl, hs.var (k := 0) rfl 0 rfl, hs.var (k := 0) rfl 1 rfl⟩) (fun w hS => trivial) (fun w hs => trivial) ?_
     refine at_xseg [54, 55, 56] 0 (#[true, true, true, true, true, true, true, true, true, true, true, true, true, true, true, true, true, true, true, true, true, true, true, true, true, true, true, true, true, true, true, true, true, true, true, true, true, true, true, true, true, true, true, true, true, true, true, true, true, true, true, true, true, true, true, true, true]) rfl (by kernel_rfl) [] [1, 61] (L2 := [(1, .pointer (some ⟨g22046, 0, none⟩)), (61, .bool true)]) (obs := []) (by kernel_rfl) (by kernel_rfl) (by kernel_rfl) (.inr fun w hs => ⟨hs.var (k := 0) rfl 0 rfl, hs.var (k := 0) rfl 1 rfl, hs.var (k := 0) rfl 2 rfl, hs.var (k := 0) rfl 0 rfl, hs.var (k := 0) rfl 1 rfl⟩) (fun w hS => trivial) (fun w hs => trivial) ?_
     refine at_xend (by kernel_rfl) ?_
     refine at_thn (at_cond_t rfl (rfl) ?_)
     refine at_seq (at_reg0 [] [2] [(2, .bool false)] ?_)
     refine at_thn (at_ret (at_then_ret ?_))
     obtain rfl := Option.some.inj H
     refine at_drop (k := 0) rfl rfl ?_
     exact at_done0 [.bool false] (.inl rfl) [.tmp 2] fun w hs => ⟨_, _, [], rfl, ⟨rfl, rfl⟩, hle, hs⟩
   ·
    rw [if_neg h30053] at H
    refine at_xseg [8, 9, 10, 11, 12, 14, 15, 16, 17, 18] 39 (#[true, true, true, true, true, true, true, true, true, true, true, true, true, false, true, true, true, true, true, false, false, false, false, false, false, false, false, false, false, false, false, false, false, false, false, false, false, false, false, false, false, false, false, false, false, false, false, false, false, false, false, false, false, false, false, false, false]) rfl (by kernel_rfl) [(10, .bool true)] [1, 15, 17, 23] (L2 := [(1, .pointer (some ⟨g22046, 0, none⟩)), (15, .bool true), (17, undef), (23, undef)]) (obs := [fun _ => (.bool (!b8) : Value) = .bool true]) (by kernel_rfl) (by kernel_rfl) (by kernel_rfl) (.inr fun w hs => ⟨hs.var (k := 0) rfl 0 rfl, hs.var (k := 0) rfl 1 rfl⟩) (fun w hS => congrArg Value.bool (not_tt (ff_of h30053))) (fun w hs => congrArg Value.bool (not_tt (ff_of h30053))) ?_
    refine at_xseg [13, 19, 20, 21, 22, 23, 24, 25, 26] 30 (#[true, true, true, true, true, true, true, true, true, true, true, true, true, true, true, true, true, true, true, true, true, true, true, true, true, true, true, false, false, false, false, false, false, false, false, false, false, false, false, false, false, false, false, false, false, false, false, false, false, false, false, false, false, false, false, false, false]) rfl (by kernel_rfl) [] [1, 26, 28, 31] (L2 := [(1, .pointer (some ⟨g22046, 0, none⟩)), (26, .bool true), (28, undef), (31, undef)]) (obs := []) (by kernel_rfl) (by kernel_rfl) (by kernel_rfl) (.inr fun w hs => ⟨hs.var (k := 0) rfl 0 rfl, hs.var (k := 0) rfl 1 rfl⟩) (fun w hS => trivial) (fun w hs => trivial) ?_
    refine at_xseg [27, 28, 29, 30, 31, 32, 33, 34, 35] 21 (#[true, true, true, true, true, true, true, true, true, true, true, true, true, true, true, true, true, true, true, true, true, true, true, true, true, true, true, true, true, true, true, true, true, true, true, true, false, false, false, false, false, false, false, false, false, false, false, false, false, false, false, false, false, false, false, false, false]) rfl (by kernel_rfl) [] [1, 35, 37, 40] (L2 := [(1, .pointer (some ⟨g22046, 0, none⟩)), (35, .bool true), (37, undef), (40, undef)]) (obs := []) (by kernel_rfl) (by kernel_rfl) (by kernel_rfl) (.inr fun w hs => ⟨hs.var (k := 0) rfl 0 rfl, hs.var (k := 0) rfl 1 rfl⟩) (fun w hS => trivial) (fun w hs => trivial) ?_
    refine at_xseg [36, 37, 38, 39, 40, 41, 42, 43, 44, 45, 46, 47, 48, 49, 50, 51, 52, 53] 3 (#[true, true, true, true, true, true, true, true, true, true, true, true, true, true, true, true, true, true, true, true, true, true, true, true, true, true, true, true, true, true, true, true, true, true, true, true, true, true, true, true, true, true, true, true, true, true, true, true, true, true, true, true, true, true, false, false, false]) rfl (by kernel_rfl) [] [1, 56, 58] (L2 := [(1, .pointer (some ⟨g22046, 0, none⟩)), (56, .bool true), (58, undef)]) (obs := []) (by kernel_rfl) (by kernel_rfl) (by kernel_rfl) (.inr fun w hs => ⟨hs.var (k := 0) rfl 0 rfl, hs.var (k := 0) rfl 1 rfl⟩) (fun w hS => trivial) (fun w hs => trivial) ?_
    refine at_xseg [54, 55, 56] 0 (#[true, true, true, true, true, true, true, true, true, true, true, true, true, true, true, true, true, true, true, true, true, true, true, true, true, true, true, true, true, true, true, true, true, true, true, true, true, true, true, true, true, true, true, true, true, true, true, true, true, true, true, true, true, true, true, true, true]) rfl (by kernel_rfl) [] [1, 61] (L2 := [(1, .pointer (some ⟨g22046, 0, none⟩)), (61, .bool true)]) (obs := []) (by kernel_rfl) (by kernel_rfl) (by kernel_rfl) (.inr fun w hs => ⟨hs.var (k := 0) rfl 0 rfl, hs.var (k := 0) rfl 1 rfl⟩) (fun w hS => trivial) (fun w hs => trivial) ?_
    refine at_xend (by kernel_rfl) ?_
    refine at_thn (at_cond_t rfl (rfl) ?_)
    refine at_seq (at_reg0 [] [2] [(2, .bool false)] ?_)
    refine at_thn (at_ret (at_then_ret ?_))
    obtain rfl := Option.some.inj H
    refine at_drop (k := 0) rfl rfl ?_
    exact at_done0 [.bool false] (.inl rfl) [.tmp 2] fun w hs => ⟨_, _, [], rfl, ⟨rfl, rfl⟩, hle, hs⟩
  ·
   rw [if_neg h25053] at H
   refine at_xseg [3, 4, 5, 6] 50 (#[true, true, true, true, true, true, true, false, false, false, false, false, false, false, false, false, false, false, false, false, false, false, false, false, false, false, false, false, false, false, false, false, false, false, false, false, false, false, false, false, false, false, false, false, false, false, false, false, false, false, false, false, false, false, false, false, false]) rfl (by kernel_rfl) [(4, .bool true)] [1, 9, 11] (L2 := [(1, .pointer (some ⟨g22046, 0, none⟩)), (9, .bool true), (11, undef)]) (obs := [fun _ => (.bool (!b7) : Value) = .bool true]) (by kernel_rfl) (by kernel_rfl) (by kernel_rfl) (.inr fun w hs => hs.var (k := 0) rfl 0 rfl) (fun w hS => congrArg Value.bool (not_tt (ff_of h25053))) (fun w hs => congrArg Value.bool (not_tt (ff_of h25053))) ?_
   refine at_xseg [7, 8, 9, 10, 11, 12, 14, 15, 16, 17, 18] 39 (#[true, true, true, true, true, true, true, true, true, true, true, true, true, false, true, true, true, true, true, false, false, false, false, false, false, false, false, false, false, false, false, false, false, false, false, false, false, false, false, false, false, false, false, false, false, false, false, false, false, false, false, false, false, false, false, false, false]) rfl (by kernel_rfl) [] [1, 15, 17, 23] (L2 := [(1, .pointer (some ⟨g22046, 0, none⟩)), (15, .bool true), (17, undef), (23, undef)]) (obs := []) (by kernel_rfl) (by kernel_rfl) (by kernel_rfl) (.inr fun w hs => hs.var (k := 0) rfl 0 rfl) (fun w hS => trivial) (fun w hs => trivial) ?_
   refine at_xseg [13, 19, 20, 21, 22, 23, 24, 25, 26] 30 (#[true, true, true, true, true, true, true, true, true, true, true, true, true, true, true, true, true, true, true, true, true, true, true, true, true, true, true, false, false, false, false, false, false, false, false, false, false, false, false, false, false, false, false, false, false, false, false, false, false, false, false, false, false, false, false, false, false]) rfl (by kernel_rfl) [] [1, 26, 28, 31] (L2 := [(1, .pointer (some ⟨g22046, 0, none⟩)), (26, .bool true), (28, undef), (31, undef)]) (obs := []) (by kernel_rfl) (by kernel_rfl) (by kernel_rfl) (.inr fun w hs => hs.var (k := 0) rfl 0 rfl) (fun w hS => trivial) (fun w hs => trivial) ?_
   refine at_xseg [27, 28, 29, 30, 31, 32, 33, 34, 35] 21 (#[true, true, true, true, true, true, true, true, true, true, true, true, true, true, true, true, true, true, true, true, true, true, true, true, true, true, true, true, true, true, true, true, true, true, true, true, false, false, false, false, false, false, false, false, false, false, false, false, false, false, false, false, false, false, false, false, false]) rfl (by kernel_rfl) [] [1, 35, 37, 40] (L2 := [(1, .pointer (some ⟨g22046, 0, none⟩)), (35, .bool true), (37, undef), (40, undef)]) (obs := []) (by kernel_rfl) (by kernel_rfl) (by kernel_rfl) (.inr fun w hs => hs.var (k := 0) rfl 0 rfl) (fun w hS => trivial) (fun w hs => trivial) ?_
   refine at_xseg [36, 37, 38, 39, 40, 41, 42, 43, 44, 45, 46, 47, 48, 49, 50, 51, 52, 53] 3 (#[true, true, true, true, true, true, true, true, true, true, true, true, true, true, true, true, true, true, true, true, true, true, true, true, true, true, true, true, true, true, true, true, true, true, true, true, true, true, true, true, true, true, true, true, true, true, true, true, true, true, true, true, true, true, false, false, false]) rfl (by kernel_rfl) [] [1, 56, 58] (L2 := [(1, .pointer (some ⟨g22046, 0, none⟩)), (56, .bool true), (58, undef)]) (obs := []) (by kernel_rfl) (by kernel_rfl) (by kernel_rfl) (.inr fun w hs => hs.var (k := 0) rfl 0 rfl) (fun w hS => trivial) (fun w hs => trivial) ?_
   refine at_xseg [54, 55, 56] 0 (#[true, true, true, true, true, true, true, true, true, true, true, true, true, true, true, true, true, true, true, true, true, true, true, true, true, true, true, true, true, true, true, true, true, true, true, true, true, true, true, true, true, true, true, true, true, true, true, true, true, true, true, true, true, true, true, true, true]) rfl (by kernel_rfl) [] [1, 61] (L2 := [(1, .pointer (some ⟨g22046, 0, none⟩)), (61, .bool true)]) (obs := []) (by kernel_rfl) (by kernel_rfl) (by kernel_rfl) (.inr fun w hs => hs.var (k := 0) rfl 0 rfl) (fun w hS => trivial) (fun w hs => trivial) ?_
   refine at_xend (by kernel_rfl) ?_
   refine at_thn (at_cond_t rfl (rfl) ?_)
   refine at_seq (at_reg0 [] [2] [(2, .bool false)] ?_)
   refine at_thn (at_ret (at_then_ret ?_))
   obtain rfl := Option.some.inj H
   refine at_drop (k := 0) rfl rfl ?_
   exact at_done0 [.bool false] (.inl rfl) [.tmp 2] fun w hs => ⟨_, _, [], rfl, ⟨rfl, rfl⟩, hle, hs⟩
end Go.Proofs.Ytnhnipdanpcbeaa
