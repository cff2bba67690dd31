import Derived.Test.YtnhnipdanpcbeaaG10
namespace Go.Proofs.Ytnhnipdanpcbeaa
open Go Eng
set_option linter.unusedVariables false
set_option linter.unusedSimpArgs false
/-! ### (*loop.example/g00146/spec.l09Pen).shown: function 67 -/
def spec_l09Pen_shown (k : Nat) (p130 : T_spec_l09Pen) (p135 : Int) (p136 : Int) : Option T_spec_l09Pen := (spec_WidthOf k p135).bind fun b10 => (if 0 ≤ (IntKind.i64.wrap ((p130.rows.length : Int) - 1)) then (if (IntKind.i64.wrap ((p130.rows.length : Int) - 1)) < (p130.rows.length : Int) then (if b10 = 0 then (if (IntKind.i64.wrap (p130.col - 1)) > 0 then (if 0 ≤ (IntKind.i64.wrap ((IntKind.i64.wrap (p130.col - 1)) - 1)) then (if (IntKind.i64.wrap ((IntKind.i64.wrap (p130.col - 1)) - 1)) < ((rdA [] p130.rows (IntKind.i64.wrap ((p130.rows.length : Int) - 1))).length : Int) then ((spec_l08Wide k (rdA z_impl_Cell (rdA [] p130.rows (IntKind.i64.wrap ((p130.rows.length : Int) - 1))) (IntKind.i64.wrap ((IntKind.i64.wrap (p130.col - 1)) - 1)))).bind fun b11 => (if b11 = true then (if (IntKind.i64.wrap ((IntKind.i64.wrap (p130.col - 1)) - 1)) ≥ 0 then (if (((rdA z_impl_Cell (rdA [] p130.rows (IntKind.i64.wrap ((p130.rows.length : Int) - 1))) (IntKind.i64.wrap ((IntKind.i64.wrap (p130.col - 1)) - 1))).Points).length : Int) > 0 then (if (((rdA z_impl_Cell (rdA [] p130.rows (IntKind.i64.wrap ((p130.rows.length : Int) - 1))) (IntKind.i64.wrap ((IntKind.i64.wrap (p130.col - 1)) - 1))).Points).length : Int) < 4 then ((spec_l01Copy ((rdA z_impl_Cell (rdA [] p130.rows (IntKind.i64.wrap ((p130.rows.length : Int) - 1))) (IntKind.i64.wrap ((IntKind.i64.wrap (p130.col - 1)) - 1))).Points)).bind fun b12 => (if b12.length + ([p135] : List Int).length ≤ 17592186044416 then (some (⟨p130.cols, p130.rows.set (IntKind.i64.wrap ((p130.rows.length : Int) - 1)).toNat ((rdA [] p130.rows (IntKind.i64.wrap ((p130.rows.length : Int) - 1))).set (IntKind.i64.wrap ((IntKind.i64.wrap (p130.col - 1)) - 1)).toNat (⟨(b12 ++ ([p135] : List Int)), (rdA z_impl_Cell (rdA [] p130.rows (IntKind.i64.wrap ((p130.rows.length : Int) - 1))) (IntKind.i64.wrap ((IntKind.i64.wrap (p130.col - 1)) - 1))).Attr⟩ : T_impl_Cell)), p130.col⟩ : T_spec_l09Pen)) else none)) else (some p130)) else (some p130)) else (some p130)) else (if (IntKind.i64.wrap (p130.col - 1)) ≥ 0 then (if 0 ≤ (IntKind.i64.wrap (p130.col - 1)) then (if (IntKind.i64.wrap (p130.col - 1)) < ((rdA [] p130.rows (IntKind.i64.wrap ((p130.rows.length : Int) - 1))).length : Int) then (if (((rdA z_impl_Cell (rdA [] p130.rows (IntKind.i64.wrap ((p130.rows.length : Int) - 1))) (IntKind.i64.wrap (p130.col - 1))).Points).length : Int) > 0 then (if (((rdA z_impl_Cell (rdA [] p130.rows (IntKind.i64.wrap ((p130.rows.length : Int) - 1))) (IntKind.i64.wrap (p130.col - 1))).Points).length : Int) < 4 then ((spec_l01Copy ((rdA z_impl_Cell (rdA [] p130.rows (IntKind.i64.wrap ((p130.rows.length : Int) - 1))) (IntKind.i64.wrap (p130.col - 1))).Points)).bind fun b13 => (if b13.length + ([p135] : List Int).length ≤ 17592186044416 then (some (⟨p130.cols, p130.rows.set (IntKind.i64.wrap ((p130.rows.length : Int) - 1)).toNat ((rdA [] p130.rows (IntKind.i64.wrap ((p130.rows.length : Int) - 1))).set (IntKind.i64.wrap (p130.col - 1)).toNat (⟨(b13 ++ ([p135] : List Int)), (rdA z_impl_Cell (rdA [] p130.rows (IntKind.i64.wrap ((p130.rows.length : Int) - 1))) (IntKind.i64.wrap (p130.col - 1))).Attr⟩ : T_impl_Cell)), p130.col⟩ : T_spec_l09Pen)) else none)) else (some p130)) else (some p130)) else none) else none) else (some p130)))) else none) else none) else (if (IntKind.i64.wrap (p130.col - 1)) ≥ 0 then (if 0 ≤ (IntKind.i64.wrap (p130.col - 1)) then (if (IntKind.i64.wrap (p130.col - 1)) < ((rdA [] p130.rows (IntKind.i64.wrap ((p130.rows.length : Int) - 1))).length : Int) then (if (((rdA z_impl_Cell (rdA [] p130.rows (IntKind.i64.wrap ((p130.rows.length : Int) - 1))) (IntKind.i64.wrap (p130.col - 1))).Points).length : Int) > 0 then (if (((rdA z_impl_Cell (rdA [] p130.rows (IntKind.i64.wrap ((p130.rows.length : Int) - 1))) (IntKind.i64.wrap (p130.col - 1))).Points).length : Int) < 4 then ((spec_l01Copy ((rdA z_impl_Cell (rdA [] p130.rows (IntKind.i64.wrap ((p130.rows.length : Int) - 1))) (IntKind.i64.wrap (p130.col - 1))).Points)).bind fun b14 => (if b14.length + ([p135] : List Int).length ≤ 17592186044416 then (some (⟨p130.cols, p130.rows.set (IntKind.i64.wrap ((p130.rows.length : Int) - 1)).toNat ((rdA [] p130.rows (IntKind.i64.wrap ((p130.rows.length : Int) - 1))).set (IntKind.i64.wrap (p130.col - 1)).toNat (⟨(b14 ++ ([p135] : List Int)), (rdA z_impl_Cell (rdA [] p130.rows (IntKind.i64.wrap ((p130.rows.length : Int) - 1))) (IntKind.i64.wrap (p130.col - 1))).Attr⟩ : T_impl_Cell)), p130.col⟩ : T_spec_l09Pen)) else none)) else (some p130)) else (some p130)) else none) else none) else (some p130))) else (if (IntKind.i64.wrap (p130.cols - p130.col)) < b10 then ((spec_l09Pen_next p130).bind fun b15 => (if 0 ≤ (IntKind.i64.wrap ((b15.rows.length : Int) - 1)) then (if (IntKind.i64.wrap ((b15.rows.length : Int) - 1)) < (b15.rows.length : Int) then (if 0 ≤ b15.col then (if b15.col < ((rdA [] b15.rows (IntKind.i64.wrap ((b15.rows.length : Int) - 1))).length : Int) then (if b10 = 2 then (if 0 ≤ (IntKind.i64.wrap (b15.col + 1)) then (if (IntKind.i64.wrap (b15.col + 1)) < (((rdA [] b15.rows (IntKind.i64.wrap ((b15.rows.length : Int) - 1))).set b15.col.toNat (⟨([p135] : List Int), p136⟩ : T_impl_Cell)).length : Int) then (some (⟨b15.cols, (b15.rows.set (IntKind.i64.wrap ((b15.rows.length : Int) - 1)).toNat ((rdA [] b15.rows (IntKind.i64.wrap ((b15.rows.length : Int) - 1))).set b15.col.toNat (⟨([p135] : List Int), p136⟩ : T_impl_Cell))).set (IntKind.i64.wrap ((b15.rows.length : Int) - 1)).toNat (((rdA [] b15.rows (IntKind.i64.wrap ((b15.rows.length : Int) - 1))).set b15.col.toNat (⟨([p135] : List Int), p136⟩ : T_impl_Cell)).set (IntKind.i64.wrap (b15.col + 1)).toNat (⟨([] : List Int), p136⟩ : T_impl_Cell)), IntKind.i64.wrap (b15.col + b10)⟩ : T_spec_l09Pen)) else none) else none) else (some (⟨b15.cols, b15.rows.set (IntKind.i64.wrap ((b15.rows.length : Int) - 1)).toNat ((rdA [] b15.rows (IntKind.i64.wrap ((b15.rows.length : Int) - 1))).set b15.col.toNat (⟨([p135] : List Int), p136⟩ : T_impl_Cell)), IntKind.i64.wrap (b15.col + b10)⟩ : T_spec_l09Pen))) else none) else none) else none) else none)) else (if 0 ≤ p130.col then (if p130.col < ((rdA [] p130.rows (IntKind.i64.wrap ((p130.rows.length : Int) - 1))).length : Int) then (if b10 = 2 then (if 0 ≤ (IntKind.i64.wrap (p130.col + 1)) then (if (IntKind.i64.wrap (p130.col + 1)) < (((rdA [] p130.rows (IntKind.i64.wrap ((p130.rows.length : Int) - 1))).set p130.col.toNat (⟨([p135] : List Int), p136⟩ : T_impl_Cell)).length : Int) then (some (⟨p130.cols, (p130.rows.set (IntKind.i64.wrap ((p130.rows.length : Int) - 1)).toNat ((rdA [] p130.rows (IntKind.i64.wrap ((p130.rows.length : Int) - 1))).set p130.col.toNat (⟨([p135] : List Int), p136⟩ : T_impl_Cell))).set (IntKind.i64.wrap ((p130.rows.length : Int) - 1)).toNat (((rdA [] p130.rows (IntKind.i64.wrap ((p130.rows.length : Int) - 1))).set p130.col.toNat (⟨([p135] : List Int), p136⟩ : T_impl_Cell)).set (IntKind.i64.wrap (p130.col + 1)).toNat (⟨([] : List Int), p136⟩ : T_impl_Cell)), IntKind.i64.wrap (p130.col + b10)⟩ : T_spec_l09Pen)) else none) else none) else (some (⟨p130.cols, p130.rows.set (IntKind.i64.wrap ((p130.rows.length : Int) - 1)).toNat ((rdA [] p130.rows (IntKind.i64.wrap ((p130.rows.length : Int) - 1))).set p130.col.toNat (⟨([p135] : List Int), p136⟩ : T_impl_Cell)), IntKind.i64.wrap (p130.col + b10)⟩ : T_spec_l09Pen))) else none) else none))) else none) else none)
set_option maxHeartbeats 4000000 in
set_option maxRecDepth 100000 in
theorem spec_l09Pen_shown.calls {k : Nat} {p130 : T_spec_l09Pen} {p135 : Int} {p136 : Int} {r : T_spec_l09Pen} {I0 : Imm} {g129 : Nat} {A131 : Option Addr} {c132 : Nat} {s133 : Seg} (H : spec_l09Pen_shown k p130 p135 p136 = some r) (ho134 : DOwn (DK.sl k_impl_Cell 71) 36 I0 A131 c132 p130.rows s133) :
    Meets Try.prog 67 ([.pointer (some ⟨g129, 0, none⟩), .int .i64 p135, .int .i64 p136] : List Value).toArray I0 [[(g129, .cells #[.int .i64 p130.cols, .slice A131 p130.rows.length c132, .int .i64 p130.col] 69 (0, 0))], s133] (fun v J M => ∃ (A_1 : Option Addr) (c_2 : Nat) (s_3 : Seg), v = .tuple #[] ∧ M = [[(g129, .cells #[.int .i64 r.cols, .slice A_1 r.rows.length c_2, .int .i64 r.col] 69 (0, 0))], s_3] ∧ DOwn (DK.sl k_impl_Cell 71) 36 J A_1 c_2 r.rows s_3) := by
  have hle := ImmLe.refl I0
  unfold spec_l09Pen_shown at H
  refine fn_intro (fn := Try.f67) 130 Try.func67 rfl rfl rfl (fun E Fs => ?_)
  refine at_seq ?_
  refine at_ops [0, 1, 2] rfl ?_
  refine at_seg [0] [1, 2] rfl [] [0, 1, 2, 9] (L2 := [(0, .pointer (some ⟨g129, 0, none⟩)), (1, .int .i64 p135), (2, .int .i64 p136), (9, .int .i64 p135)]) (obs := []) (by kernel_rfl) ?_ ?_
  · intro w hs; exact trivial
  refine at_eff rfl rfl ?_
  obtain ⟨b10, H137, H⟩ := bind_some H
  have hm_ := spec_WidthOf.calls (I0 := I0) H137
  refine eff_call rfl rfl ok69 rfl rfl (show Meets Try.prog 69 ([.int .i64 p135] : List Value).toArray _ [] _ from hm_) (Mr := ([(g129, .cells #[.int .i64 p130.cols, .slice A131 p130.rows.length c132, .int .i64 p130.col] 69 (0, 0))] :: s133 :: Fs)) (List.Perm.refl _) (fun v138 J139 M140 hq141 hJ142 => ?_)
  replace hle := hle.trans hJ142
  replace ho134 := ho134.mono hJ142
  obtain ⟨rfl, rfl⟩ := hq141
  refine at_seg [2] [] rfl [] [0, 1, 2, 6] (L2 := [(0, .pointer (some ⟨g129, 0, none⟩)), (1, .int .i64 p135), (2, .int .i64 p136), (6, .int .i64 b10)]) (obs := []) (by kernel_rfl) ?_ ?_
  · intro w hs; exact trivial
  refine at_end ?_
  refine at_thn ?_
  refine at_seq ?_
  obtain ⟨h143, H⟩ := ite_some H
  obtain ⟨h144, H⟩ := ite_some H
  obtain ⟨A145, c146, hd147⟩ := ho134.at [] (IntKind.i64.wrap ((p130.rows.length : Int) - 1)) h143 h144
  have hc148 := hd147.cells
  have hi149 : OwnIn k_impl_Cell 71 J139 A145 c146 (rdA [] p130.rows (IntKind.i64.wrap ((p130.rows.length : Int) - 1))) s133 := hd147.inn
  refine at_regd hmo [(3, .slice A131 p130.rows.length c132), (7, .slice A131 p130.rows.length c132), (11, .slice A145 (rdA [] p130.rows (IntKind.i64.wrap ((p130.rows.length : Int) - 1))).length c146)] [0, 1, 2, 6, 7] (by kernel_rfl) (L2 := [(0, .pointer (some ⟨g129, 0, none⟩)), (1, .int .i64 p135), (2, .int .i64 p136), (6, .int .i64 b10), (7, .slice A145 (rdA [] p130.rows (IntKind.i64.wrap ((p130.rows.length : Int) - 1))).length c146)]) (obs := [fun w => w.cell? ⟨g129, 1, none⟩ = some (.slice A131 p130.rows.length c132), fun w => w.cell? ⟨g129, 1, none⟩ = some (.slice A131 p130.rows.length c132), fun _ => A131.isSome = true ∧ 0 ≤ (IntKind.i64.wrap ((p130.rows.length : Int) - 1)) ∧ (IntKind.i64.wrap ((p130.rows.length : Int) - 1)) < ((p130.rows.length : Nat) : Int), fun w => w.cell? ((A131.getD ad0).add ((IntKind.i64.wrap ((p130.rows.length : Int) - 1)).toNat * 1)) = some (.slice A145 (rdA [] p130.rows (IntKind.i64.wrap ((p130.rows.length : Int) - 1))).length c146)]) (by kernel_rfl) ?_ ?_
  · intro w hs; exact ⟨hs.var (k := 0) rfl 1 rfl, hs.var (k := 0) rfl 1 rfl, ⟨ho134.ne (IntKind.i64.wrap ((p130.rows.length : Int) - 1)) h143 h144, h143, h144⟩, cell0 (hc148 0 _ rfl hs (k := 1) rfl)⟩
  refine at_thn ?_
  refine at_seq ?_
  refine at_seq ?_
  refine at_reg [] [0, 1, 2, 6, 7, 24] (L2 := [(0, .pointer (some ⟨g129, 0, none⟩)), (1, .int .i64 p135), (2, .int .i64 p136), (6, .int .i64 b10), (7, .slice A145 (rdA [] p130.rows (IntKind.i64.wrap ((p130.rows.length : Int) - 1))).length c146), (24, .bool (b10 == 0))]) (obs := []) (by kernel_rfl) ?_ ?_
  · intro w hs; exact trivial
  refine at_thn ?_
  by_cases h150 : b10 = 0
  · rw [if_pos h150] at H
    refine at_cond_t rfl (beq_iff_eq.2 h150) ?_
    refine at_seq ?_
    refine at_reg [(3, .int .i64 p130.col)] [1, 7, 8] (L2 := [(1, .int .i64 p135), (7, .slice A145 (rdA [] p130.rows (IntKind.i64.wrap ((p130.rows.length : Int) - 1))).length c146), (8, .int .i64 (IntKind.i64.wrap (p130.col - 1)))]) (obs := [fun w => w.cell? ⟨g129, 2, none⟩ = some (.int .i64 p130.col)]) (by kernel_rfl) ?_ ?_
    · intro w hs; exact hs.var (k := 0) rfl 2 rfl
    refine at_thn ?_
    refine at_seq ?_
    refine at_seq ?_
    refine at_ops [0, 1, 2, 3, 4, 5, 6, 7, 8, 9] rfl ?_
    by_cases h151 : (IntKind.i64.wrap (p130.col - 1)) > 0
    · rw [if_pos h151] at H
      obtain ⟨h152, H⟩ := ite_some H
      obtain ⟨h153, H⟩ := ite_some H
      obtain ⟨cs158, hz159, hc154⟩ := hi149.elem z_impl_Cell (IntKind.i64.wrap ((IntKind.i64.wrap (p130.col - 1)) - 1)) h152 h153
      obtain ⟨A155, c156, rfl, hr157⟩ := hz159
      refine at_seg [0, 1, 2, 3, 4, 5, 6, 7] [8, 9] rfl [(2, .bool true), (7, .agg #[.slice A155 ((rdA z_impl_Cell (rdA [] p130.rows (IntKind.i64.wrap ((p130.rows.length : Int) - 1))) (IntKind.i64.wrap ((IntKind.i64.wrap (p130.col - 1)) - 1))).Points).length c156, .int .i64 ((rdA z_impl_Cell (rdA [] p130.rows (IntKind.i64.wrap ((p130.rows.length : Int) - 1))) (IntKind.i64.wrap ((IntKind.i64.wrap (p130.col - 1)) - 1))).Attr)])] [1, 7, 8, 32, 37] (L2 := [(1, .int .i64 p135), (7, .slice A145 (rdA [] p130.rows (IntKind.i64.wrap ((p130.rows.length : Int) - 1))).length c146), (8, .int .i64 (IntKind.i64.wrap (p130.col - 1))), (32, .bool true), (37, .agg #[.slice A155 ((rdA z_impl_Cell (rdA [] p130.rows (IntKind.i64.wrap ((p130.rows.length : Int) - 1))) (IntKind.i64.wrap ((IntKind.i64.wrap (p130.col - 1)) - 1))).Points).length c156, .int .i64 ((rdA z_impl_Cell (rdA [] p130.rows (IntKind.i64.wrap ((p130.rows.length : Int) - 1))) (IntKind.i64.wrap ((IntKind.i64.wrap (p130.col - 1)) - 1))).Attr)])]) (obs := [fun _ => (.bool (decide ((IntKind.i64.wrap (p130.col - 1)) > 0)) : Value) = .bool true, fun _ => A145.isSome = true ∧ 0 ≤ (IntKind.i64.wrap ((IntKind.i64.wrap (p130.col - 1)) - 1)) ∧ (IntKind.i64.wrap ((IntKind.i64.wrap (p130.col - 1)) - 1)) < (((rdA [] p130.rows (IntKind.i64.wrap ((p130.rows.length : Int) - 1))).length : Nat) : Int), fun w => CellsAt w ((A145.getD ad0).add ((IntKind.i64.wrap ((IntKind.i64.wrap (p130.col - 1)) - 1)).toNat * 2)) [.slice A155 ((rdA z_impl_Cell (rdA [] p130.rows (IntKind.i64.wrap ((p130.rows.length : Int) - 1))) (IntKind.i64.wrap ((IntKind.i64.wrap (p130.col - 1)) - 1))).Points).length c156, .int .i64 ((rdA z_impl_Cell (rdA [] p130.rows (IntKind.i64.wrap ((p130.rows.length : Int) - 1))) (IntKind.i64.wrap ((IntKind.i64.wrap (p130.col - 1)) - 1))).Attr)] 0]) (by kernel_rfl) ?_ ?_
      · intro w hs; exact ⟨congrArg Value.bool (decide_eq_true h151), ⟨hi149.ne (IntKind.i64.wrap ((IntKind.i64.wrap (p130.col - 1)) - 1)) h152 h153, h152, h153⟩, ⟨hc154 0 _ rfl hs (k := 1) rfl, hc154 1 _ rfl hs (k := 1) rfl, trivial⟩⟩
      refine at_eff rfl rfl ?_
      obtain ⟨b11, H160, H⟩ := bind_some H
      have hm_ := spec_l08Wide.calls (I0 := J139) H160 hr157
      refine eff_call rfl rfl ok70 rfl rfl (show Meets Try.prog 70 ([.agg #[.slice A155 ((rdA z_impl_Cell (rdA [] p130.rows (IntKind.i64.wrap ((p130.rows.length : Int) - 1))) (IntKind.i64.wrap ((IntKind.i64.wrap (p130.col - 1)) - 1))).Points).length c156, .int .i64 ((rdA z_impl_Cell (rdA [] p130.rows (IntKind.i64.wrap ((p130.rows.length : Int) - 1))) (IntKind.i64.wrap ((IntKind.i64.wrap (p130.col - 1)) - 1))).Attr)]] : List Value).toArray _ [] _ from hm_) (Mr := ([(g129, .cells #[.int .i64 p130.cols, .slice A131 p130.rows.length c132, .int .i64 p130.col] 69 (0, 0))] :: s133 :: Fs)) (List.Perm.refl _) (fun v161 J162 M163 hq164 hJ165 => ?_)
      replace hle := hle.trans hJ165
      replace hd147 := hd147.mono hJ165
      replace hi149 := hi149.mono hJ165
      replace ho134 := ho134.mono hJ165
      replace hr157 := hr157.mono hJ165
      obtain ⟨rfl, rfl⟩ := hq164
      refine at_seg [9] [] rfl [] [1, 7, 8, 39] (L2 := [(1, .int .i64 p135), (7, .slice A145 (rdA [] p130.rows (IntKind.i64.wrap ((p130.rows.length : Int) - 1))).length c146), (8, .int .i64 (IntKind.i64.wrap (p130.col - 1))), (39, .bool b11)]) (obs := []) (by kernel_rfl) ?_ ?_
      · intro w hs; exact trivial
      refine at_end ?_
      refine at_thn ?_
      by_cases h166 : b11 = true
      · rw [if_pos h166] at H
        refine at_cond_t rfl (h166) ?_
        refine at_reg [] [1, 7, 8] (L2 := [(1, .int .i64 p135), (7, .slice A145 (rdA [] p130.rows (IntKind.i64.wrap ((p130.rows.length : Int) - 1))).length c146), (8, .int .i64 (IntKind.i64.wrap ((IntKind.i64.wrap (p130.col - 1)) - 1)))]) (obs := []) (by kernel_rfl) ?_ ?_
        · intro w hs; exact trivial
        refine at_thn ?_
        refine at_seq ?_
        refine at_seq ?_
        by_cases h167 : (IntKind.i64.wrap ((IntKind.i64.wrap (p130.col - 1)) - 1)) ≥ 0
        · rw [if_pos h167] at H
          by_cases h174 : (((rdA z_impl_Cell (rdA [] p130.rows (IntKind.i64.wrap ((p130.rows.length : Int) - 1))) (IntKind.i64.wrap ((IntKind.i64.wrap (p130.col - 1)) - 1))).Points).length : Int) > 0
          · rw [if_pos h174] at H
            obtain ⟨cs179, hz180, hc175⟩ := hi149.elem z_impl_Cell (IntKind.i64.wrap ((IntKind.i64.wrap (p130.col - 1)) - 1)) h152 h153
            obtain ⟨A176, c177, rfl, hr178⟩ := hz180
            refine at_reg [(2, .bool true), (7, .slice A176 ((rdA z_impl_Cell (rdA [] p130.rows (IntKind.i64.wrap ((p130.rows.length : Int) - 1))) (IntKind.i64.wrap ((IntKind.i64.wrap (p130.col - 1)) - 1))).Points).length c177), (11, .bool true), (16, .slice A176 ((rdA z_impl_Cell (rdA [] p130.rows (IntKind.i64.wrap ((p130.rows.length : Int) - 1))) (IntKind.i64.wrap ((IntKind.i64.wrap (p130.col - 1)) - 1))).Points).length c177)] [1, 7, 8, 61] (L2 := [(1, .int .i64 p135), (7, .slice A145 (rdA [] p130.rows (IntKind.i64.wrap ((p130.rows.length : Int) - 1))).length c146), (8, .int .i64 (IntKind.i64.wrap ((IntKind.i64.wrap (p130.col - 1)) - 1))), (61, .bool (decide ((((rdA z_impl_Cell (rdA [] p130.rows (IntKind.i64.wrap ((p130.rows.length : Int) - 1))) (IntKind.i64.wrap ((IntKind.i64.wrap (p130.col - 1)) - 1))).Points).length : Int) < 4)))]) (obs := [fun _ => (.bool (decide ((IntKind.i64.wrap ((IntKind.i64.wrap (p130.col - 1)) - 1)) ≥ 0)) : Value) = .bool true, fun _ => A145.isSome = true ∧ 0 ≤ (IntKind.i64.wrap ((IntKind.i64.wrap (p130.col - 1)) - 1)) ∧ (IntKind.i64.wrap ((IntKind.i64.wrap (p130.col - 1)) - 1)) < (((rdA [] p130.rows (IntKind.i64.wrap ((p130.rows.length : Int) - 1))).length : Nat) : Int), fun w => w.cell? (((A145.getD ad0).add ((IntKind.i64.wrap ((IntKind.i64.wrap (p130.col - 1)) - 1)).toNat * 2)).add 0) = some (.slice A176 ((rdA z_impl_Cell (rdA [] p130.rows (IntKind.i64.wrap ((p130.rows.length : Int) - 1))) (IntKind.i64.wrap ((IntKind.i64.wrap (p130.col - 1)) - 1))).Points).length c177), fun _ => (.bool (decide ((((rdA z_impl_Cell (rdA [] p130.rows (IntKind.i64.wrap ((p130.rows.length : Int) - 1))) (IntKind.i64.wrap ((IntKind.i64.wrap (p130.col - 1)) - 1))).Points).length : Int) > 0)) : Value) = .bool true, fun _ => A145.isSome = true ∧ 0 ≤ (IntKind.i64.wrap ((IntKind.i64.wrap (p130.col - 1)) - 1)) ∧ (IntKind.i64.wrap ((IntKind.i64.wrap (p130.col - 1)) - 1)) < (((rdA [] p130.rows (IntKind.i64.wrap ((p130.rows.length : Int) - 1))).length : Nat) : Int), fun w => w.cell? (((A145.getD ad0).add ((IntKind.i64.wrap ((IntKind.i64.wrap (p130.col - 1)) - 1)).toNat * 2)).add 0) = some (.slice A176 ((rdA z_impl_Cell (rdA [] p130.rows (IntKind.i64.wrap ((p130.rows.length : Int) - 1))) (IntKind.i64.wrap ((IntKind.i64.wrap (p130.col - 1)) - 1))).Points).length c177)]) (by kernel_rfl) ?_ ?_
            · intro w hs; exact ⟨congrArg Value.bool (decide_eq_true h167), ⟨hi149.ne (IntKind.i64.wrap ((IntKind.i64.wrap (p130.col - 1)) - 1)) h152 h153, h152, h153⟩, hc175 0 _ rfl hs (k := 1) rfl, congrArg Value.bool (decide_eq_true h174), ⟨hi149.ne (IntKind.i64.wrap ((IntKind.i64.wrap (p130.col - 1)) - 1)) h152 h153, h152, h153⟩, hc175 0 _ rfl hs (k := 1) rfl⟩
            refine at_thn ?_
            by_cases h181 : (((rdA z_impl_Cell (rdA [] p130.rows (IntKind.i64.wrap ((p130.rows.length : Int) - 1))) (IntKind.i64.wrap ((IntKind.i64.wrap (p130.col - 1)) - 1))).Points).length : Int) < 4
            · rw [if_pos h181] at H
              refine at_cond_t rfl (decide_eq_true h181) ?_
              refine at_ops [0, 1, 2, 3, 4, 5, 6, 7, 8, 9, 10, 11, 12, 13] rfl ?_
              obtain ⟨cs186, hz187, hc182⟩ := hi149.elem z_impl_Cell (IntKind.i64.wrap ((IntKind.i64.wrap (p130.col - 1)) - 1)) h152 h153
              obtain ⟨A183, c184, rfl, hr185⟩ := hz187
              refine at_seg [0, 1, 2, 3, 4, 5, 6] [7, 8, 9, 10, 11, 12, 13] rfl [(6, .slice A183 ((rdA z_impl_Cell (rdA [] p130.rows (IntKind.i64.wrap ((p130.rows.length : Int) - 1))) (IntKind.i64.wrap ((IntKind.i64.wrap (p130.col - 1)) - 1))).Points).length c184)] [1, 62, 63, 68] (L2 := [(1, .int .i64 p135), (62, .slice A145 (rdA [] p130.rows (IntKind.i64.wrap ((p130.rows.length : Int) - 1))).length c146), (63, .int .i64 (IntKind.i64.wrap ((IntKind.i64.wrap (p130.col - 1)) - 1))), (68, .slice A183 ((rdA z_impl_Cell (rdA [] p130.rows (IntKind.i64.wrap ((p130.rows.length : Int) - 1))) (IntKind.i64.wrap ((IntKind.i64.wrap (p130.col - 1)) - 1))).Points).length c184)]) (obs := [fun _ => A145.isSome = true ∧ 0 ≤ (IntKind.i64.wrap ((IntKind.i64.wrap (p130.col - 1)) - 1)) ∧ (IntKind.i64.wrap ((IntKind.i64.wrap (p130.col - 1)) - 1)) < (((rdA [] p130.rows (IntKind.i64.wrap ((p130.rows.length : Int) - 1))).length : Nat) : Int), fun w => w.cell? (((A145.getD ad0).add ((IntKind.i64.wrap ((IntKind.i64.wrap (p130.col - 1)) - 1)).toNat * 2)).add 0) = some (.slice A183 ((rdA z_impl_Cell (rdA [] p130.rows (IntKind.i64.wrap ((p130.rows.length : Int) - 1))) (IntKind.i64.wrap ((IntKind.i64.wrap (p130.col - 1)) - 1))).Points).length c184)]) (by kernel_rfl) ?_ ?_
              · intro w hs; exact ⟨⟨hi149.ne (IntKind.i64.wrap ((IntKind.i64.wrap (p130.col - 1)) - 1)) h152 h153, h152, h153⟩, hc182 0 _ rfl hs (k := 1) rfl⟩
              refine at_eff rfl rfl ?_
              obtain ⟨b12, H188, H⟩ := bind_some H
              have hm_ := spec_l01Copy.calls (I0 := J162) H188 hr185
              refine eff_call rfl rfl ok71 rfl rfl (show Meets Try.prog 71 ([.slice A183 ((rdA z_impl_Cell (rdA [] p130.rows (IntKind.i64.wrap ((p130.rows.length : Int) - 1))) (IntKind.i64.wrap ((IntKind.i64.wrap (p130.col - 1)) - 1))).Points).length c184] : List Value).toArray _ [] _ from hm_) (Mr := ([(g129, .cells #[.int .i64 p130.cols, .slice A131 p130.rows.length c132, .int .i64 p130.col] 69 (0, 0))] :: s133 :: Fs)) (List.Perm.refl _) (fun v189 J190 M191 hq192 hJ193 => ?_)
              replace hle := hle.trans hJ193
              replace hd147 := hd147.mono hJ193
              replace hi149 := hi149.mono hJ193
              replace ho134 := ho134.mono hJ193
              replace hr185 := hr185.mono hJ193
              obtain ⟨A194, c195, s196, rfl, rfl, ho197⟩ := hq192
              refine at_seg [8] [9, 10, 11, 12, 13] rfl [] [62, 63, 69, 70] (L2 := [(62, .slice A145 (rdA [] p130.rows (IntKind.i64.wrap ((p130.rows.length : Int) - 1))).length c146), (63, .int .i64 (IntKind.i64.wrap ((IntKind.i64.wrap (p130.col - 1)) - 1))), (69, .slice A194 b12.length c195), (70, .int .i64 p135)]) (obs := []) (by kernel_rfl) ?_ ?_
              · intro w hs; exact trivial
              refine at_eff rfl rfl ?_
              refine eff_buildSlice (e := 2) (cells := #[.int .i64 p135]) ([p135] : List Int).length rfl rfl rfl (by kernel_rfl) (fun g198 => ?_)
              have ho199 := own_lit (K := (Kd.int .i64)) (e := 2) (I := J190) (xs := ([p135] : List Int)) (css := [[.int .i64 p135]]) (cells := #[.int .i64 p135]) (b := g198) ⟨rfl, trivial⟩ rfl
              refine at_eff rfl rfl ?_
              obtain ⟨h200, H⟩ := ite_some H
              obtain ⟨i_, hi_, hz_, hs_, hb_⟩ := info2
              refine eff_append (K := (Kd.int .i64)) (xs := b12) (ys := ([p135] : List Int)) 1 rfl rfl rfl rfl rfl und23 und23 hi_ hz_ hs_ rfl rfl rfl ho197 rfl (fun w hs => ho199.rowAt (k := 0) hs rfl) (by rw [hb_]; omega) (by omega) (fun A201 c202 s203 ho204 => ?_)
              refine at_seg [11, 12] [13] rfl [] [72, 74] (L2 := [(72, .slice A201 (b12 ++ ([p135] : List Int)).length c202), (74, .pointer (some (((A145.getD ad0).add ((IntKind.i64.wrap ((IntKind.i64.wrap (p130.col - 1)) - 1)).toNat * 2)).add 0)))]) (obs := [fun _ => A145.isSome = true ∧ 0 ≤ (IntKind.i64.wrap ((IntKind.i64.wrap (p130.col - 1)) - 1)) ∧ (IntKind.i64.wrap ((IntKind.i64.wrap (p130.col - 1)) - 1)) < (((rdA [] p130.rows (IntKind.i64.wrap ((p130.rows.length : Int) - 1))).length : Nat) : Int)]) (by kernel_rfl) ?_ ?_
              · intro w hs; exact ⟨hi149.ne (IntKind.i64.wrap ((IntKind.i64.wrap (p130.col - 1)) - 1)) h152 h153, h152, h153⟩
              refine at_eff rfl rfl ?_
              refine at_freeze (k := 1) rfl rfl (fun J205 hJ206 hin207 => ?_)
              replace hle := hle.trans hJ206
              replace hd147 := hd147.mono hJ206
              replace hi149 := hi149.mono hJ206
              replace ho134 := ho134.mono hJ206
              replace ho204 := ho204.mono hJ206
              have hr208 : Rd (Kd.int .i64) J205 A201 c202 (b12 ++ ([p135] : List Int)) := ho204.rd (ImmLe.refl _) hin207
              refine at_focus (D := (DK.sl k_impl_Cell 71)) 2 hd147 rfl (fun s209 s211 ho210 hh212 => ?_)
              replace ho210 : Own k_impl_Cell 71 J205 A145 c146 (rdA [] p130.rows (IntKind.i64.wrap ((p130.rows.length : Int) - 1))) s209 := ho210
              refine eff_storeOwn (K := k_impl_Cell) (u := (⟨(b12 ++ ([p135] : List Int)), (rdA z_impl_Cell (rdA [] p130.rows (IntKind.i64.wrap ((p130.rows.length : Int) - 1))) (IntKind.i64.wrap ((IntKind.i64.wrap (p130.col - 1)) - 1))).Attr⟩ : T_impl_Cell)) 0 0 z_impl_Cell (IntKind.i64.wrap ((IntKind.i64.wrap (p130.col - 1)) - 1)) rfl rfl rfl rfl ho210 rfl h152 h153 rfl rfl (Nat.le_of_ble_eq_true (by kernel_rfl)) rfl (by rintro cs_ ⟨A213, c214, rfl, hr215⟩; exact ⟨A201, c202, rfl, hr208⟩) (fun s216 ho217 => ?_)
              have hd218 := hh212.close (y := (rdA [] p130.rows (IntKind.i64.wrap ((p130.rows.length : Int) - 1))).set (IntKind.i64.wrap ((IntKind.i64.wrap (p130.col - 1)) - 1)).toNat (⟨(b12 ++ ([p135] : List Int)), (rdA z_impl_Cell (rdA [] p130.rows (IntKind.i64.wrap ((p130.rows.length : Int) - 1))) (IntKind.i64.wrap ((IntKind.i64.wrap (p130.col - 1)) - 1))).Attr⟩ : T_impl_Cell)) ((show ([.slice A145 ((rdA [] p130.rows (IntKind.i64.wrap ((p130.rows.length : Int) - 1))).set (IntKind.i64.wrap ((IntKind.i64.wrap (p130.col - 1)) - 1)).toNat (⟨(b12 ++ ([p135] : List Int)), (rdA z_impl_Cell (rdA [] p130.rows (IntKind.i64.wrap ((p130.rows.length : Int) - 1))) (IntKind.i64.wrap ((IntKind.i64.wrap (p130.col - 1)) - 1))).Attr⟩ : T_impl_Cell)).length c146] : List Value) = [.slice A145 (rdA [] p130.rows (IntKind.i64.wrap ((p130.rows.length : Int) - 1))).length c146] from by simp only [List.length_set])) ho217
              refine at_merge 0 2 rfl rfl rfl ?_
              have he219 : rdA [] (p130.rows.set (IntKind.i64.wrap ((p130.rows.length : Int) - 1)).toNat ((rdA [] p130.rows (IntKind.i64.wrap ((p130.rows.length : Int) - 1))).set (IntKind.i64.wrap ((IntKind.i64.wrap (p130.col - 1)) - 1)).toNat (⟨(b12 ++ ([p135] : List Int)), (rdA z_impl_Cell (rdA [] p130.rows (IntKind.i64.wrap ((p130.rows.length : Int) - 1))) (IntKind.i64.wrap ((IntKind.i64.wrap (p130.col - 1)) - 1))).Attr⟩ : T_impl_Cell))) (IntKind.i64.wrap ((p130.rows.length : Int) - 1)) = ((rdA [] p130.rows (IntKind.i64.wrap ((p130.rows.length : Int) - 1))).set (IntKind.i64.wrap ((IntKind.i64.wrap (p130.col - 1)) - 1)).toNat (⟨(b12 ++ ([p135] : List Int)), (rdA z_impl_Cell (rdA [] p130.rows (IntKind.i64.wrap ((p130.rows.length : Int) - 1))) (IntKind.i64.wrap ((IntKind.i64.wrap (p130.col - 1)) - 1))).Attr⟩ : T_impl_Cell)) := rdA_set _ _ h143 h144
              have hd220 : DOwn (DK.sl k_impl_Cell 71) 36 J205 A131 c132 (p130.rows.set (IntKind.i64.wrap ((p130.rows.length : Int) - 1)).toNat ((rdA [] p130.rows (IntKind.i64.wrap ((p130.rows.length : Int) - 1))).set (IntKind.i64.wrap ((IntKind.i64.wrap (p130.col - 1)) - 1)).toNat (⟨(b12 ++ ([p135] : List Int)), (rdA z_impl_Cell (rdA [] p130.rows (IntKind.i64.wrap ((p130.rows.length : Int) - 1))) (IntKind.i64.wrap ((IntKind.i64.wrap (p130.col - 1)) - 1))).Attr⟩ : T_impl_Cell))) (s216 ++ s211) := hd218.own
              have hi221 : OwnIn k_impl_Cell 71 J205 A145 c146 ((rdA [] p130.rows (IntKind.i64.wrap ((p130.rows.length : Int) - 1))).set (IntKind.i64.wrap ((IntKind.i64.wrap (p130.col - 1)) - 1)).toNat (⟨(b12 ++ ([p135] : List Int)), (rdA z_impl_Cell (rdA [] p130.rows (IntKind.i64.wrap ((p130.rows.length : Int) - 1))) (IntKind.i64.wrap ((IntKind.i64.wrap (p130.col - 1)) - 1))).Attr⟩ : T_impl_Cell)) (s216 ++ s211) := by have h_ := hd218.inn; rw [he219] at h_; exact h_
              refine at_keep [72, 74] (L2 := [(72, .slice A201 (b12 ++ ([p135] : List Int)).length c202), (74, .pointer (some (((A145.getD ad0).add ((IntKind.i64.wrap ((IntKind.i64.wrap (p130.col - 1)) - 1)).toNat * 2)).add 0)))]) rfl ?_
              refine at_eqM (M1 := ([(g198, .cells #[.int .i64 p135] 2 (0, 0))] :: [(g129, .cells #[.int .i64 p130.cols, .slice A131 p130.rows.length c132, .int .i64 p130.col] 69 (0, 0))] :: (s216 ++ s211) :: Fs)) (M2 := ([(g198, .cells #[.int .i64 p135] 2 (0, 0))] :: [(g129, .cells #[.int .i64 p130.cols, .slice A131 (p130.rows.set (IntKind.i64.wrap ((p130.rows.length : Int) - 1)).toNat ((rdA [] p130.rows (IntKind.i64.wrap ((p130.rows.length : Int) - 1))).set (IntKind.i64.wrap ((IntKind.i64.wrap (p130.col - 1)) - 1)).toNat (⟨(b12 ++ ([p135] : List Int)), (rdA z_impl_Cell (rdA [] p130.rows (IntKind.i64.wrap ((p130.rows.length : Int) - 1))) (IntKind.i64.wrap ((IntKind.i64.wrap (p130.col - 1)) - 1))).Attr⟩ : T_impl_Cell))).length c132, .int .i64 p130.col] 69 (0, 0))] :: (s216 ++ s211) :: Fs)) rfl (by simp only [List.length_set]) ?_
              have h222 : (IntKind.i64.wrap ((p130.rows.length : Int) - 1)) < ((p130.rows.set (IntKind.i64.wrap ((p130.rows.length : Int) - 1)).toNat ((rdA [] p130.rows (IntKind.i64.wrap ((p130.rows.length : Int) - 1))).set (IntKind.i64.wrap ((IntKind.i64.wrap (p130.col - 1)) - 1)).toNat (⟨(b12 ++ ([p135] : List Int)), (rdA z_impl_Cell (rdA [] p130.rows (IntKind.i64.wrap ((p130.rows.length : Int) - 1))) (IntKind.i64.wrap ((IntKind.i64.wrap (p130.col - 1)) - 1))).Attr⟩ : T_impl_Cell))).length : Int) := by have q_ := h144; simp only [List.length_set] at q_ ⊢; exact q_
              have h223 : (IntKind.i64.wrap ((IntKind.i64.wrap (p130.col - 1)) - 1)) < (((rdA [] p130.rows (IntKind.i64.wrap ((p130.rows.length : Int) - 1))).set (IntKind.i64.wrap ((IntKind.i64.wrap (p130.col - 1)) - 1)).toNat (⟨(b12 ++ ([p135] : List Int)), (rdA z_impl_Cell (rdA [] p130.rows (IntKind.i64.wrap ((p130.rows.length : Int) - 1))) (IntKind.i64.wrap ((IntKind.i64.wrap (p130.col - 1)) - 1))).Attr⟩ : T_impl_Cell)).length : Int) := by have q_ := h153; simp only [List.length_set] at q_ ⊢; exact q_
              refine at_end ?_
              refine at_thn ?_
              refine at_ret ?_
              refine at_then_ret ?_
              obtain rfl := Option.some.inj H
              refine at_drop (k := 0) rfl rfl ?_
              refine at_eqM (M1 := ([(g129, .cells #[.int .i64 p130.cols, .slice A131 (p130.rows.set (IntKind.i64.wrap ((p130.rows.length : Int) - 1)).toNat ((rdA [] p130.rows (IntKind.i64.wrap ((p130.rows.length : Int) - 1))).set (IntKind.i64.wrap ((IntKind.i64.wrap (p130.col - 1)) - 1)).toNat (⟨(b12 ++ ([p135] : List Int)), (rdA z_impl_Cell (rdA [] p130.rows (IntKind.i64.wrap ((p130.rows.length : Int) - 1))) (IntKind.i64.wrap ((IntKind.i64.wrap (p130.col - 1)) - 1))).Attr⟩ : T_impl_Cell))).length c132, .int .i64 p130.col] 69 (0, 0))] :: (s216 ++ s211) :: Fs)) (M2 := ([(g129, .cells #[.int .i64 p130.cols, .slice A131 (p130.rows.set (IntKind.i64.wrap ((p130.rows.length : Int) - 1)).toNat ((rdA [] p130.rows (IntKind.i64.wrap ((p130.rows.length : Int) - 1))).set (IntKind.i64.wrap ((IntKind.i64.wrap (p130.col - 1)) - 1)).toNat (⟨(b12 ++ ([p135] : List Int)), (rdA z_impl_Cell (rdA [] p130.rows (IntKind.i64.wrap ((p130.rows.length : Int) - 1))) (IntKind.i64.wrap ((IntKind.i64.wrap (p130.col - 1)) - 1))).Attr⟩ : T_impl_Cell))).length c132, .int .i64 p130.col] 69 (0, 0))] :: (s216 ++ s211) :: Fs)) rfl rfl ?_
              refine at_done (vs := []) (obs := []) (.inl rfl) [] [] rfl (by kernel_rfl) (fun w hs => trivial) (fun w hs => ⟨_, _, [[(g129, .cells #[.int .i64 p130.cols, .slice A131 (p130.rows.set (IntKind.i64.wrap ((p130.rows.length : Int) - 1)).toNat ((rdA [] p130.rows (IntKind.i64.wrap ((p130.rows.length : Int) - 1))).set (IntKind.i64.wrap ((IntKind.i64.wrap (p130.col - 1)) - 1)).toNat (⟨(b12 ++ ([p135] : List Int)), (rdA z_impl_Cell (rdA [] p130.rows (IntKind.i64.wrap ((p130.rows.length : Int) - 1))) (IntKind.i64.wrap ((IntKind.i64.wrap (p130.col - 1)) - 1))).Attr⟩ : T_impl_Cell))).length c132, .int .i64 p130.col] 69 (0, 0))], (s216 ++ s211)], rfl, ⟨A131, c132, (s216 ++ s211), rfl, rfl, hd220⟩, hle, hs⟩)
            · rw [if_neg h181] at H
              refine at_cond_f rfl (decide_eq_false h181) ?_
              refine at_skip ?_
              refine at_thn ?_
              refine at_ret ?_
              refine at_then_ret ?_
              obtain rfl := Option.some.inj H
              refine at_done (vs := []) (obs := []) (.inl rfl) [] [] rfl (by kernel_rfl) (fun w hs => trivial) (fun w hs => ⟨_, _, [[(g129, .cells #[.int .i64 p130.cols, .slice A131 p130.rows.length c132, .int .i64 p130.col] 69 (0, 0))], s133], rfl, ⟨A131, c132, s133, rfl, rfl, ho134⟩, hle, hs⟩)
          · rw [if_neg h174] at H
            obtain ⟨cs228, hz229, hc224⟩ := hi149.elem z_impl_Cell (IntKind.i64.wrap ((IntKind.i64.wrap (p130.col - 1)) - 1)) h152 h153
            obtain ⟨A225, c226, rfl, hr227⟩ := hz229
            refine at_reg [(2, .bool true), (7, .slice A225 ((rdA z_impl_Cell (rdA [] p130.rows (IntKind.i64.wrap ((p130.rows.length : Int) - 1))) (IntKind.i64.wrap ((IntKind.i64.wrap (p130.col - 1)) - 1))).Points).length c226), (11, .bool false)] [1, 7, 8, 61] (L2 := [(1, .int .i64 p135), (7, .slice A145 (rdA [] p130.rows (IntKind.i64.wrap ((p130.rows.length : Int) - 1))).length c146), (8, .int .i64 (IntKind.i64.wrap ((IntKind.i64.wrap (p130.col - 1)) - 1))), (61, .bool false)]) (obs := [fun _ => (.bool (decide ((IntKind.i64.wrap ((IntKind.i64.wrap (p130.col - 1)) - 1)) ≥ 0)) : Value) = .bool true, fun _ => A145.isSome = true ∧ 0 ≤ (IntKind.i64.wrap ((IntKind.i64.wrap (p130.col - 1)) - 1)) ∧ (IntKind.i64.wrap ((IntKind.i64.wrap (p130.col - 1)) - 1)) < (((rdA [] p130.rows (IntKind.i64.wrap ((p130.rows.length : Int) - 1))).length : Nat) : Int), fun w => w.cell? (((A145.getD ad0).add ((IntKind.i64.wrap ((IntKind.i64.wrap (p130.col - 1)) - 1)).toNat * 2)).add 0) = some (.slice A225 ((rdA z_impl_Cell (rdA [] p130.rows (IntKind.i64.wrap ((p130.rows.length : Int) - 1))) (IntKind.i64.wrap ((IntKind.i64.wrap (p130.col - 1)) - 1))).Points).length c226), fun _ => (.bool (decide ((((rdA z_impl_Cell (rdA [] p130.rows (IntKind.i64.wrap ((p130.rows.length : Int) - 1))) (IntKind.i64.wrap ((IntKind.i64.wrap (p130.col - 1)) - 1))).Points).length : Int) > 0)) : Value) = .bool false]) (by kernel_rfl) ?_ ?_
            · intro w hs; exact ⟨congrArg Value.bool (decide_eq_true h167), ⟨hi149.ne (IntKind.i64.wrap ((IntKind.i64.wrap (p130.col - 1)) - 1)) h152 h153, h152, h153⟩, hc224 0 _ rfl hs (k := 1) rfl, congrArg Value.bool (decide_eq_false h174)⟩
            refine at_thn ?_
            refine at_cond_f rfl (rfl) ?_
            refine at_skip ?_
            refine at_thn ?_
            refine at_ret ?_
            refine at_then_ret ?_
            obtain rfl := Option.some.inj H
            refine at_done (vs := []) (obs := []) (.inl rfl) [] [] rfl (by kernel_rfl) (fun w hs => trivial) (fun w hs => ⟨_, _, [[(g129, .cells #[.int .i64 p130.cols, .slice A131 p130.rows.length c132, .int .i64 p130.col] 69 (0, 0))], s133], rfl, ⟨A131, c132, s133, rfl, rfl, ho134⟩, hle, hs⟩)
        · rw [if_neg h167] at H
          refine at_reg [(2, .bool false)] [1, 7, 8, 61] (L2 := [(1, .int .i64 p135), (7, .slice A145 (rdA [] p130.rows (IntKind.i64.wrap ((p130.rows.length : Int) - 1))).length c146), (8, .int .i64 (IntKind.i64.wrap ((IntKind.i64.wrap (p130.col - 1)) - 1))), (61, .bool false)]) (obs := [fun _ => (.bool (decide ((IntKind.i64.wrap ((IntKind.i64.wrap (p130.col - 1)) - 1)) ≥ 0)) : Value) = .bool false]) (by kernel_rfl) ?_ ?_
          · intro w hs; exact congrArg Value.bool (decide_eq_false h167)
          refine at_thn ?_
          refine at_cond_f rfl (rfl) ?_
          refine at_skip ?_
          refine at_thn ?_
          refine at_ret ?_
          refine at_then_ret ?_
          obtain rfl := Option.some.inj H
          refine at_done (vs := []) (obs := []) (.inl rfl) [] [] rfl (by kernel_rfl) (fun w hs => trivial) (fun w hs => ⟨_, _, [[(g129, .cells #[.int .i64 p130.cols, .slice A131 p130.rows.length c132, .int .i64 p130.col] 69 (0, 0))], s133], rfl, ⟨A131, c132, s133, rfl, rfl, ho134⟩, hle, hs⟩)
      · rw [if_neg h166] at H
        refine at_cond_f rfl (ff_of h166) ?_
        refine at_skip ?_
        refine at_thn ?_
        refine at_seq ?_
        refine at_seq ?_
        by_cases h230 : (IntKind.i64.wrap (p130.col - 1)) ≥ 0
        · rw [if_pos h230] at H
          obtain ⟨h231, H⟩ := ite_some H
          obtain ⟨h232, H⟩ := ite_some H
          by_cases h239 : (((rdA z_impl_Cell (rdA [] p130.rows (IntKind.i64.wrap ((p130.rows.length : Int) - 1))) (IntKind.i64.wrap (p130.col - 1))).Points).length : Int) > 0
          · rw [if_pos h239] at H
            obtain ⟨cs244, hz245, hc240⟩ := hi149.elem z_impl_Cell (IntKind.i64.wrap (p130.col - 1)) h231 h232
            obtain ⟨A241, c242, rfl, hr243⟩ := hz245
            refine at_reg [(2, .bool true), (7, .slice A241 ((rdA z_impl_Cell (rdA [] p130.rows (IntKind.i64.wrap ((p130.rows.length : Int) - 1))) (IntKind.i64.wrap (p130.col - 1))).Points).length c242), (11, .bool true), (16, .slice A241 ((rdA z_impl_Cell (rdA [] p130.rows (IntKind.i64.wrap ((p130.rows.length : Int) - 1))) (IntKind.i64.wrap (p130.col - 1))).Points).length c242)] [1, 7, 8, 61] (L2 := [(1, .int .i64 p135), (7, .slice A145 (rdA [] p130.rows (IntKind.i64.wrap ((p130.rows.length : Int) - 1))).length c146), (8, .int .i64 (IntKind.i64.wrap (p130.col - 1))), (61, .bool (decide ((((rdA z_impl_Cell (rdA [] p130.rows (IntKind.i64.wrap ((p130.rows.length : Int) - 1))) (IntKind.i64.wrap (p130.col - 1))).Points).length : Int) < 4)))]) (obs := [fun _ => (.bool (decide ((IntKind.i64.wrap (p130.col - 1)) ≥ 0)) : Value) = .bool true, fun _ => A145.isSome = true ∧ 0 ≤ (IntKind.i64.wrap (p130.col - 1)) ∧ (IntKind.i64.wrap (p130.col - 1)) < (((rdA [] p130.rows (IntKind.i64.wrap ((p130.rows.length : Int) - 1))).length : Nat) : Int), fun w => w.cell? (((A145.getD ad0).add ((IntKind.i64.wrap (p130.col - 1)).toNat * 2)).add 0) = some (.slice A241 ((rdA z_impl_Cell (rdA [] p130.rows (IntKind.i64.wrap ((p130.rows.length : Int) - 1))) (IntKind.i64.wrap (p130.col - 1))).Points).length c242), fun _ => (.bool (decide ((((rdA z_impl_Cell (rdA [] p130.rows (IntKind.i64.wrap ((p130.rows.length : Int) - 1))) (IntKind.i64.wrap (p130.col - 1))).Points).length : Int) > 0)) : Value) = .bool true, fun _ => A145.isSome = true ∧ 0 ≤ (IntKind.i64.wrap (p130.col - 1)) ∧ (IntKind.i64.wrap (p130.col - 1)) < (((rdA [] p130.rows (IntKind.i64.wrap ((p130.rows.length : Int) - 1))).length : Nat) : Int), fun w => w.cell? (((A145.getD ad0).add ((IntKind.i64.wrap (p130.col - 1)).toNat * 2)).add 0) = some (.slice A241 ((rdA z_impl_Cell (rdA [] p130.rows (IntKind.i64.wrap ((p130.rows.length : Int) - 1))) (IntKind.i64.wrap (p130.col - 1))).Points).length c242)]) (by kernel_rfl) ?_ ?_
            · intro w hs; exact ⟨congrArg Value.bool (decide_eq_true h230), ⟨hi149.ne (IntKind.i64.wrap (p130.col - 1)) h231 h232, h231, h232⟩, hc240 0 _ rfl hs (k := 1) rfl, congrArg Value.bool (decide_eq_true h239), ⟨hi149.ne (IntKind.i64.wrap (p130.col - 1)) h231 h232, h231, h232⟩, hc240 0 _ rfl hs (k := 1) rfl⟩
            refine at_thn ?_
            by_cases h246 : (((rdA z_impl_Cell (rdA [] p130.rows (IntKind.i64.wrap ((p130.rows.length : Int) - 1))) (IntKind.i64.wrap (p130.col - 1))).Points).length : Int) < 4
            · rw [if_pos h246] at H
              refine at_cond_t rfl (decide_eq_true h246) ?_
              refine at_ops [0, 1, 2, 3, 4, 5, 6, 7, 8, 9, 10, 11, 12, 13] rfl ?_
              obtain ⟨cs251, hz252, hc247⟩ := hi149.elem z_impl_Cell (IntKind.i64.wrap (p130.col - 1)) h231 h232
              obtain ⟨A248, c249, rfl, hr250⟩ := hz252
              refine at_seg [0, 1, 2, 3, 4, 5, 6] [7, 8, 9, 10, 11, 12, 13] rfl [(6, .slice A248 ((rdA z_impl_Cell (rdA [] p130.rows (IntKind.i64.wrap ((p130.rows.length : Int) - 1))) (IntKind.i64.wrap (p130.col - 1))).Points).length c249)] [1, 62, 63, 68] (L2 := [(1, .int .i64 p135), (62, .slice A145 (rdA [] p130.rows (IntKind.i64.wrap ((p130.rows.length : Int) - 1))).length c146), (63, .int .i64 (IntKind.i64.wrap (p130.col - 1))), (68, .slice A248 ((rdA z_impl_Cell (rdA [] p130.rows (IntKind.i64.wrap ((p130.rows.length : Int) - 1))) (IntKind.i64.wrap (p130.col - 1))).Points).length c249)]) (obs := [fun _ => A145.isSome = true ∧ 0 ≤ (IntKind.i64.wrap (p130.col - 1)) ∧ (IntKind.i64.wrap (p130.col - 1)) < (((rdA [] p130.rows (IntKind.i64.wrap ((p130.rows.length : Int) - 1))).length : Nat) : Int), fun w => w.cell? (((A145.getD ad0).add ((IntKind.i64.wrap (p130.col - 1)).toNat * 2)).add 0) = some (.slice A248 ((rdA z_impl_Cell (rdA [] p130.rows (IntKind.i64.wrap ((p130.rows.length : Int) - 1))) (IntKind.i64.wrap (p130.col - 1))).Points).length c249)]) (by kernel_rfl) ?_ ?_
              · intro w hs; exact ⟨⟨hi149.ne (IntKind.i64.wrap (p130.col - 1)) h231 h232, h231, h232⟩, hc247 0 _ rfl hs (k := 1) rfl⟩
              refine at_eff rfl rfl ?_
              obtain ⟨b13, H253, H⟩ := bind_some H
              have hm_ := spec_l01Copy.calls (I0 := J162) H253 hr250
              refine eff_call rfl rfl ok71 rfl rfl (show Meets Try.prog 71 ([.slice A248 ((rdA z_impl_Cell (rdA [] p130.rows (IntKind.i64.wrap ((p130.rows.length : Int) - 1))) (IntKind.i64.wrap (p130.col - 1))).Points).length c249] : List Value).toArray _ [] _ from hm_) (Mr := ([(g129, .cells #[.int .i64 p130.cols, .slice A131 p130.rows.length c132, .int .i64 p130.col] 69 (0, 0))] :: s133 :: Fs)) (List.Perm.refl _) (fun v254 J255 M256 hq257 hJ258 => ?_)
              replace hle := hle.trans hJ258
              replace hd147 := hd147.mono hJ258
              replace hi149 := hi149.mono hJ258
              replace ho134 := ho134.mono hJ258
              replace hr250 := hr250.mono hJ258
              obtain ⟨A259, c260, s261, rfl, rfl, ho262⟩ := hq257
              refine at_seg [8] [9, 10, 11, 12, 13] rfl [] [62, 63, 69, 70] (L2 := [(62, .slice A145 (rdA [] p130.rows (IntKind.i64.wrap ((p130.rows.length : Int) - 1))).length c146), (63, .int .i64 (IntKind.i64.wrap (p130.col - 1))), (69, .slice A259 b13.length c260), (70, .int .i64 p135)]) (obs := []) (by kernel_rfl) ?_ ?_
              · intro w hs; exact trivial
              refine at_eff rfl rfl ?_
              refine eff_buildSlice (e := 2) (cells := #[.int .i64 p135]) ([p135] : List Int).length rfl rfl rfl (by kernel_rfl) (fun g263 => ?_)
              have ho264 := own_lit (K := (Kd.int .i64)) (e := 2) (I := J255) (xs := ([p135] : List Int)) (css := [[.int .i64 p135]]) (cells := #[.int .i64 p135]) (b := g263) ⟨rfl, trivial⟩ rfl
              refine at_eff rfl rfl ?_
              obtain ⟨h265, H⟩ := ite_some H
              obtain ⟨i_, hi_, hz_, hs_, hb_⟩ := info2
              refine eff_append (K := (Kd.int .i64)) (xs := b13) (ys := ([p135] : List Int)) 1 rfl rfl rfl rfl rfl und23 und23 hi_ hz_ hs_ rfl rfl rfl ho262 rfl (fun w hs => ho264.rowAt (k := 0) hs rfl) (by rw [hb_]; omega) (by omega) (fun A266 c267 s268 ho269 => ?_)
              refine at_seg [11, 12] [13] rfl [] [72, 74] (L2 := [(72, .slice A266 (b13 ++ ([p135] : List Int)).length c267), (74, .pointer (some (((A145.getD ad0).add ((IntKind.i64.wrap (p130.col - 1)).toNat * 2)).add 0)))]) (obs := [fun _ => A145.isSome = true ∧ 0 ≤ (IntKind.i64.wrap (p130.col - 1)) ∧ (IntKind.i64.wrap (p130.col - 1)) < (((rdA [] p130.rows (IntKind.i64.wrap ((p130.rows.length : Int) - 1))).length : Nat) : Int)]) (by kernel_rfl) ?_ ?_
              · intro w hs; exact ⟨hi149.ne (IntKind.i64.wrap (p130.col - 1)) h231 h232, h231, h232⟩
              refine at_eff rfl rfl ?_
              refine at_freeze (k := 1) rfl rfl (fun J270 hJ271 hin272 => ?_)
              replace hle := hle.trans hJ271
              replace hd147 := hd147.mono hJ271
              replace hi149 := hi149.mono hJ271
              replace ho134 := ho134.mono hJ271
              replace ho269 := ho269.mono hJ271
              have hr273 : Rd (Kd.int .i64) J270 A266 c267 (b13 ++ ([p135] : List Int)) := ho269.rd (ImmLe.refl _) hin272
              refine at_focus (D := (DK.sl k_impl_Cell 71)) 2 hd147 rfl (fun s274 s276 ho275 hh277 => ?_)
              replace ho275 : Own k_impl_Cell 71 J270 A145 c146 (rdA [] p130.rows (IntKind.i64.wrap ((p130.rows.length : Int) - 1))) s274 := ho275
              refine eff_storeOwn (K := k_impl_Cell) (u := (⟨(b13 ++ ([p135] : List Int)), (rdA z_impl_Cell (rdA [] p130.rows (IntKind.i64.wrap ((p130.rows.length : Int) - 1))) (IntKind.i64.wrap (p130.col - 1))).Attr⟩ : T_impl_Cell)) 0 0 z_impl_Cell (IntKind.i64.wrap (p130.col - 1)) rfl rfl rfl rfl ho275 rfl h231 h232 rfl rfl (Nat.le_of_ble_eq_true (by kernel_rfl)) rfl (by rintro cs_ ⟨A278, c279, rfl, hr280⟩; exact ⟨A266, c267, rfl, hr273⟩) (fun s281 ho282 => ?_)
              have hd283 := hh277.close (y := (rdA [] p130.rows (IntKind.i64.wrap ((p130.rows.length : Int) - 1))).set (IntKind.i64.wrap (p130.col - 1)).toNat (⟨(b13 ++ ([p135] : List Int)), (rdA z_impl_Cell (rdA [] p130.rows (IntKind.i64.wrap ((p130.rows.length : Int) - 1))) (IntKind.i64.wrap (p130.col - 1))).Attr⟩ : T_impl_Cell)) ((show ([.slice A145 ((rdA [] p130.rows (IntKind.i64.wrap ((p130.rows.length : Int) - 1))).set (IntKind.i64.wrap (p130.col - 1)).toNat (⟨(b13 ++ ([p135] : List Int)), (rdA z_impl_Cell (rdA [] p130.rows (IntKind.i64.wrap ((p130.rows.length : Int) - 1))) (IntKind.i64.wrap (p130.col - 1))).Attr⟩ : T_impl_Cell)).length c146] : List Value) = [.slice A145 (rdA [] p130.rows (IntKind.i64.wrap ((p130.rows.length : Int) - 1))).length c146] from by simp only [List.length_set])) ho282
              refine at_merge 0 2 rfl rfl rfl ?_
              have he284 : rdA [] (p130.rows.set (IntKind.i64.wrap ((p130.rows.length : Int) - 1)).toNat ((rdA [] p130.rows (IntKind.i64.wrap ((p130.rows.length : Int) - 1))).set (IntKind.i64.wrap (p130.col - 1)).toNat (⟨(b13 ++ ([p135] : List Int)), (rdA z_impl_Cell (rdA [] p130.rows (IntKind.i64.wrap ((p130.rows.length : Int) - 1))) (IntKind.i64.wrap (p130.col - 1))).Attr⟩ : T_impl_Cell))) (IntKind.i64.wrap ((p130.rows.length : Int) - 1)) = ((rdA [] p130.rows (IntKind.i64.wrap ((p130.rows.length : Int) - 1))).set (IntKind.i64.wrap (p130.col - 1)).toNat (⟨(b13 ++ ([p135] : List Int)), (rdA z_impl_Cell (rdA [] p130.rows (IntKind.i64.wrap ((p130.rows.length : Int) - 1))) (IntKind.i64.wrap (p130.col - 1))).Attr⟩ : T_impl_Cell)) := rdA_set _ _ h143 h144
              have hd285 : DOwn (DK.sl k_impl_Cell 71) 36 J270 A131 c132 (p130.rows.set (IntKind.i64.wrap ((p130.rows.length : Int) - 1)).toNat ((rdA [] p130.rows (IntKind.i64.wrap ((p130.rows.length : Int) - 1))).set (IntKind.i64.wrap (p130.col - 1)).toNat (⟨(b13 ++ ([p135] : List Int)), (rdA z_impl_Cell (rdA [] p130.rows (IntKind.i64.wrap ((p130.rows.length : Int) - 1))) (IntKind.i64.wrap (p130.col - 1))).Attr⟩ : T_impl_Cell))) (s281 ++ s276) := hd283.own
              have hi286 : OwnIn k_impl_Cell 71 J270 A145 c146 ((rdA [] p130.rows (IntKind.i64.wrap ((p130.rows.length : Int) - 1))).set (IntKind.i64.wrap (p130.col - 1)).toNat (⟨(b13 ++ ([p135] : List Int)), (rdA z_impl_Cell (rdA [] p130.rows (IntKind.i64.wrap ((p130.rows.length : Int) - 1))) (IntKind.i64.wrap (p130.col - 1))).Attr⟩ : T_impl_Cell)) (s281 ++ s276) := by have h_ := hd283.inn; rw [he284] at h_; exact h_
              refine at_keep [72, 74] (L2 := [(72, .slice A266 (b13 ++ ([p135] : List Int)).length c267), (74, .pointer (some (((A145.getD ad0).add ((IntKind.i64.wrap (p130.col - 1)).toNat * 2)).add 0)))]) rfl ?_
              refine at_eqM (M1 := ([(g263, .cells #[.int .i64 p135] 2 (0, 0))] :: [(g129, .cells #[.int .i64 p130.cols, .slice A131 p130.rows.length c132, .int .i64 p130.col] 69 (0, 0))] :: (s281 ++ s276) :: Fs)) (M2 := ([(g263, .cells #[.int .i64 p135] 2 (0, 0))] :: [(g129, .cells #[.int .i64 p130.cols, .slice A131 (p130.rows.set (IntKind.i64.wrap ((p130.rows.length : Int) - 1)).toNat ((rdA [] p130.rows (IntKind.i64.wrap ((p130.rows.length : Int) - 1))).set (IntKind.i64.wrap (p130.col - 1)).toNat (⟨(b13 ++ ([p135] : List Int)), (rdA z_impl_Cell (rdA [] p130.rows (IntKind.i64.wrap ((p130.rows.length : Int) - 1))) (IntKind.i64.wrap (p130.col - 1))).Attr⟩ : T_impl_Cell))).length c132, .int .i64 p130.col] 69 (0, 0))] :: (s281 ++ s276) :: Fs)) rfl (by simp only [List.length_set]) ?_
              have h287 : (IntKind.i64.wrap ((p130.rows.length : Int) - 1)) < ((p130.rows.set (IntKind.i64.wrap ((p130.rows.length : Int) - 1)).toNat ((rdA [] p130.rows (IntKind.i64.wrap ((p130.rows.length : Int) - 1))).set (IntKind.i64.wrap (p130.col - 1)).toNat (⟨(b13 ++ ([p135] : List Int)), (rdA z_impl_Cell (rdA [] p130.rows (IntKind.i64.wrap ((p130.rows.length : Int) - 1))) (IntKind.i64.wrap (p130.col - 1))).Attr⟩ : T_impl_Cell))).length : Int) := by have q_ := h144; simp only [List.length_set] at q_ ⊢; exact q_
              have h288 : (IntKind.i64.wrap ((IntKind.i64.wrap (p130.col - 1)) - 1)) < (((rdA [] p130.rows (IntKind.i64.wrap ((p130.rows.length : Int) - 1))).set (IntKind.i64.wrap (p130.col - 1)).toNat (⟨(b13 ++ ([p135] : List Int)), (rdA z_impl_Cell (rdA [] p130.rows (IntKind.i64.wrap ((p130.rows.length : Int) - 1))) (IntKind.i64.wrap (p130.col - 1))).Attr⟩ : T_impl_Cell)).length : Int) := by have q_ := h153; simp only [List.length_set] at q_ ⊢; exact q_
              have h289 : (IntKind.i64.wrap (p130.col - 1)) < (((rdA [] p130.rows (IntKind.i64.wrap ((p130.rows.length : Int) - 1))).set (IntKind.i64.wrap (p130.col - 1)).toNat (⟨(b13 ++ ([p135] : List Int)), (rdA z_impl_Cell (rdA [] p130.rows (IntKind.i64.wrap ((p130.rows.length : Int) - 1))) (IntKind.i64.wrap (p130.col - 1))).Attr⟩ : T_impl_Cell)).length : Int) := by have q_ := h232; simp only [List.length_set] at q_ ⊢; exact q_
              refine at_end ?_
              refine at_thn ?_
              refine at_ret ?_
              refine at_then_ret ?_
              obtain rfl := Option.some.inj H
              refine at_drop (k := 0) rfl rfl ?_
              refine at_eqM (M1 := ([(g129, .cells #[.int .i64 p130.cols, .slice A131 (p130.rows.set (IntKind.i64.wrap ((p130.rows.length : Int) - 1)).toNat ((rdA [] p130.rows (IntKind.i64.wrap ((p130.rows.length : Int) - 1))).set (IntKind.i64.wrap (p130.col - 1)).toNat (⟨(b13 ++ ([p135] : List Int)), (rdA z_impl_Cell (rdA [] p130.rows (IntKind.i64.wrap ((p130.rows.length : Int) - 1))) (IntKind.i64.wrap (p130.col - 1))).Attr⟩ : T_impl_Cell))).length c132, .int .i64 p130.col] 69 (0, 0))] :: (s281 ++ s276) :: Fs)) (M2 := ([(g129, .cells #[.int .i64 p130.cols, .slice A131 (p130.rows.set (IntKind.i64.wrap ((p130.rows.length : Int) - 1)).toNat ((rdA [] p130.rows (IntKind.i64.wrap ((p130.rows.length : Int) - 1))).set (IntKind.i64.wrap (p130.col - 1)).toNat (⟨(b13 ++ ([p135] : List Int)), (rdA z_impl_Cell (rdA [] p130.rows (IntKind.i64.wrap ((p130.rows.length : Int) - 1))) (IntKind.i64.wrap (p130.col - 1))).Attr⟩ : T_impl_Cell))).length c132, .int .i64 p130.col] 69 (0, 0))] :: (s281 ++ s276) :: Fs)) rfl rfl ?_
              refine at_done (vs := []) (obs := []) (.inl rfl) [] [] rfl (by kernel_rfl) (fun w hs => trivial) (fun w hs => ⟨_, _, [[(g129, .cells #[.int .i64 p130.cols, .slice A131 (p130.rows.set (IntKind.i64.wrap ((p130.rows.length : Int) - 1)).toNat ((rdA [] p130.rows (IntKind.i64.wrap ((p130.rows.length : Int) - 1))).set (IntKind.i64.wrap (p130.col - 1)).toNat (⟨(b13 ++ ([p135] : List Int)), (rdA z_impl_Cell (rdA [] p130.rows (IntKind.i64.wrap ((p130.rows.length : Int) - 1))) (IntKind.i64.wrap (p130.col - 1))).Attr⟩ : T_impl_Cell))).length c132, .int .i64 p130.col] 69 (0, 0))], (s281 ++ s276)], rfl, ⟨A131, c132, (s281 ++ s276), rfl, rfl, hd285⟩, hle, hs⟩)
            · rw [if_neg h246] at H
              refine at_cond_f rfl (decide_eq_false h246) ?_
              refine at_skip ?_
              refine at_thn ?_
              refine at_ret ?_
              refine at_then_ret ?_
              obtain rfl := Option.some.inj H
              refine at_done (vs := []) (obs := []) (.inl rfl) [] [] rfl (by kernel_rfl) (fun w hs => trivial) (fun w hs => ⟨_, _, [[(g129, .cells #[.int .i64 p130.cols, .slice A131 p130.rows.length c132, .int .i64 p130.col] 69 (0, 0))], s133], rfl, ⟨A131, c132, s133, rfl, rfl, ho134⟩, hle, hs⟩)
          · rw [if_neg h239] at H
            obtain ⟨cs294, hz295, hc290⟩ := hi149.elem z_impl_Cell (IntKind.i64.wrap (p130.col - 1)) h231 h232
            obtain ⟨A291, c292, rfl, hr293⟩ := hz295
            refine at_reg [(2, .bool true), (7, .slice A291 ((rdA z_impl_Cell (rdA [] p130.rows (IntKind.i64.wrap ((p130.rows.length : Int) - 1))) (IntKind.i64.wrap (p130.col - 1))).Points).length c292), (11, .bool false)] [1, 7, 8, 61] (L2 := [(1, .int .i64 p135), (7, .slice A145 (rdA [] p130.rows (IntKind.i64.wrap ((p130.rows.length : Int) - 1))).length c146), (8, .int .i64 (IntKind.i64.wrap (p130.col - 1))), (61, .bool false)]) (obs := [fun _ => (.bool (decide ((IntKind.i64.wrap (p130.col - 1)) ≥ 0)) : Value) = .bool true, fun _ => A145.isSome = true ∧ 0 ≤ (IntKind.i64.wrap (p130.col - 1)) ∧ (IntKind.i64.wrap (p130.col - 1)) < (((rdA [] p130.rows (IntKind.i64.wrap ((p130.rows.length : Int) - 1))).length : Nat) : Int), fun w => w.cell? (((A145.getD ad0).add ((IntKind.i64.wrap (p130.col - 1)).toNat * 2)).add 0) = some (.slice A291 ((rdA z_impl_Cell (rdA [] p130.rows (IntKind.i64.wrap ((p130.rows.length : Int) - 1))) (IntKind.i64.wrap (p130.col - 1))).Points).length c292), fun _ => (.bool (decide ((((rdA z_impl_Cell (rdA [] p130.rows (IntKind.i64.wrap ((p130.rows.length : Int) - 1))) (IntKind.i64.wrap (p130.col - 1))).Points).length : Int) > 0)) : Value) = .bool false]) (by kernel_rfl) ?_ ?_
            · intro w hs; exact ⟨congrArg Value.bool (decide_eq_true h230), ⟨hi149.ne (IntKind.i64.wrap (p130.col - 1)) h231 h232, h231, h232⟩, hc290 0 _ rfl hs (k := 1) rfl, congrArg Value.bool (decide_eq_false h239)⟩
            refine at_thn ?_
            refine at_cond_f rfl (rfl) ?_
            refine at_skip ?_
            refine at_thn ?_
            refine at_ret ?_
            refine at_then_ret ?_
            obtain rfl := Option.some.inj H
            refine at_done (vs := []) (obs := []) (.inl rfl) [] [] rfl (by kernel_rfl) (fun w hs => trivial) (fun w hs => ⟨_, _, [[(g129, .cells #[.int .i64 p130.cols, .slice A131 p130.rows.length c132, .int .i64 p130.col] 69 (0, 0))], s133], rfl, ⟨A131, c132, s133, rfl, rfl, ho134⟩, hle, hs⟩)
        · rw [if_neg h230] at H
          refine at_reg [(2, .bool false)] [1, 7, 8, 61] (L2 := [(1, .int .i64 p135), (7, .slice A145 (rdA [] p130.rows (IntKind.i64.wrap ((p130.rows.length : Int) - 1))).length c146), (8, .int .i64 (IntKind.i64.wrap (p130.col - 1))), (61, .bool false)]) (obs := [fun _ => (.bool (decide ((IntKind.i64.wrap (p130.col - 1)) ≥ 0)) : Value) = .bool false]) (by kernel_rfl) ?_ ?_
          · intro w hs; exact congrArg Value.bool (decide_eq_false h230)
          refine at_thn ?_
          refine at_cond_f rfl (rfl) ?_
          refine at_skip ?_
          refine at_thn ?_
          refine at_ret ?_
          refine at_then_ret ?_
          obtain rfl := Option.some.inj H
          refine at_done (vs := []) (obs := []) (.inl rfl) [] [] rfl (by kernel_rfl) (fun w hs => trivial) (fun w hs => ⟨_, _, [[(g129, .cells #[.int .i64 p130.cols, .slice A131 p130.rows.length c132, .int .i64 p130.col] 69 (0, 0))], s133], rfl, ⟨A131, c132, s133, rfl, rfl, ho134⟩, hle, hs⟩)
    · rw [if_neg h151] at H
      refine at_seg [0, 1, 2, 3, 4, 5, 6, 7] [8, 9] rfl [(2, .bool false)] [1, 7, 8, 32, 37] (L2 := [(1, .int .i64 p135), (7, .slice A145 (rdA [] p130.rows (IntKind.i64.wrap ((p130.rows.length : Int) - 1))).length c146), (8, .int .i64 (IntKind.i64.wrap (p130.col - 1))), (32, .bool false), (37, undef)]) (obs := [fun _ => (.bool (decide ((IntKind.i64.wrap (p130.col - 1)) > 0)) : Value) = .bool false]) (by kernel_rfl) ?_ ?_
      · intro w hs; exact congrArg Value.bool (decide_eq_false h151)
      refine at_seg [8, 9] [] rfl [] [1, 7, 8, 39] (L2 := [(1, .int .i64 p135), (7, .slice A145 (rdA [] p130.rows (IntKind.i64.wrap ((p130.rows.length : Int) - 1))).length c146), (8, .int .i64 (IntKind.i64.wrap (p130.col - 1))), (39, .bool false)]) (obs := []) (by kernel_rfl) ?_ ?_
      · intro w hs; exact trivial
      refine at_end ?_
      refine at_thn ?_
      refine at_cond_f rfl (rfl) ?_
      refine at_skip ?_
      refine at_thn ?_
      refine at_seq ?_
      refine at_seq ?_
      by_cases h296 : (IntKind.i64.wrap (p130.col - 1)) ≥ 0
      · rw [if_pos h296] at H
        obtain ⟨h297, H⟩ := ite_some H
        obtain ⟨h298, H⟩ := ite_some H
        by_cases h305 : (((rdA z_impl_Cell (rdA [] p130.rows (IntKind.i64.wrap ((p130.rows.length : Int) - 1))) (IntKind.i64.wrap (p130.col - 1))).Points).length : Int) > 0
        · rw [if_pos h305] at H
          obtain ⟨cs310, hz311, hc306⟩ := hi149.elem z_impl_Cell (IntKind.i64.wrap (p130.col - 1)) h297 h298
          obtain ⟨A307, c308, rfl, hr309⟩ := hz311
          refine at_reg [(2, .bool true), (7, .slice A307 ((rdA z_impl_Cell (rdA [] p130.rows (IntKind.i64.wrap ((p130.rows.length : Int) - 1))) (IntKind.i64.wrap (p130.col - 1))).Points).length c308), (11, .bool true), (16, .slice A307 ((rdA z_impl_Cell (rdA [] p130.rows (IntKind.i64.wrap ((p130.rows.length : Int) - 1))) (IntKind.i64.wrap (p130.col - 1))).Points).length c308)] [1, 7, 8, 61] (L2 := [(1, .int .i64 p135), (7, .slice A145 (rdA [] p130.rows (IntKind.i64.wrap ((p130.rows.length : Int) - 1))).length c146), (8, .int .i64 (IntKind.i64.wrap (p130.col - 1))), (61, .bool (decide ((((rdA z_impl_Cell (rdA [] p130.rows (IntKind.i64.wrap ((p130.rows.length : Int) - 1))) (IntKind.i64.wrap (p130.col - 1))).Points).length : Int) < 4)))]) (obs := [fun _ => (.bool (decide ((IntKind.i64.wrap (p130.col - 1)) ≥ 0)) : Value) = .bool true, fun _ => A145.isSome = true ∧ 0 ≤ (IntKind.i64.wrap (p130.col - 1)) ∧ (IntKind.i64.wrap (p130.col - 1)) < (((rdA [] p130.rows (IntKind.i64.wrap ((p130.rows.length : Int) - 1))).length : Nat) : Int), fun w => w.cell? (((A145.getD ad0).add ((IntKind.i64.wrap (p130.col - 1)).toNat * 2)).add 0) = some (.slice A307 ((rdA z_impl_Cell (rdA [] p130.rows (IntKind.i64.wrap ((p130.rows.length : Int) - 1))) (IntKind.i64.wrap (p130.col - 1))).Points).length c308), fun _ => (.bool (decide ((((rdA z_impl_Cell (rdA [] p130.rows (IntKind.i64.wrap ((p130.rows.length : Int) - 1))) (IntKind.i64.wrap (p130.col - 1))).Points).length : Int) > 0)) : Value) = .bool true, fun _ => A145.isSome = true ∧ 0 ≤ (IntKind.i64.wrap (p130.col - 1)) ∧ (IntKind.i64.wrap (p130.col - 1)) < (((rdA [] p130.rows (IntKind.i64.wrap ((p130.rows.length : Int) - 1))).length : Nat) : Int), fun w => w.cell? (((A145.getD ad0).add ((IntKind.i64.wrap (p130.col - 1)).toNat * 2)).add 0) = some (.slice A307 ((rdA z_impl_Cell (rdA [] p130.rows (IntKind.i64.wrap ((p130.rows.length : Int) - 1))) (IntKind.i64.wrap (p130.col - 1))).Points).length c308)]) (by kernel_rfl) ?_ ?_
          · intro w hs; exact ⟨congrArg Value.bool (decide_eq_true h296), ⟨hi149.ne (IntKind.i64.wrap (p130.col - 1)) h297 h298, h297, h298⟩, hc306 0 _ rfl hs (k := 1) rfl, congrArg Value.bool (decide_eq_true h305), ⟨hi149.ne (IntKind.i64.wrap (p130.col - 1)) h297 h298, h297, h298⟩, hc306 0 _ rfl hs (k := 1) rfl⟩
          refine at_thn ?_
          by_cases h312 : (((rdA z_impl_Cell (rdA [] p130.rows (IntKind.i64.wrap ((p130.rows.length : Int) - 1))) (IntKind.i64.wrap (p130.col - 1))).Points).length : Int) < 4
          · rw [if_pos h312] at H
            refine at_cond_t rfl (decide_eq_true h312) ?_
            refine at_ops [0, 1, 2, 3, 4, 5, 6, 7, 8, 9, 10, 11, 12, 13] rfl ?_
            obtain ⟨cs317, hz318, hc313⟩ := hi149.elem z_impl_Cell (IntKind.i64.wrap (p130.col - 1)) h297 h298
            obtain ⟨A314, c315, rfl, hr316⟩ := hz318
            refine at_seg [0, 1, 2, 3, 4, 5, 6] [7, 8, 9, 10, 11, 12, 13] rfl [(6, .slice A314 ((rdA z_impl_Cell (rdA [] p130.rows (IntKind.i64.wrap ((p130.rows.length : Int) - 1))) (IntKind.i64.wrap (p130.col - 1))).Points).length c315)] [1, 62, 63, 68] (L2 := [(1, .int .i64 p135), (62, .slice A145 (rdA [] p130.rows (IntKind.i64.wrap ((p130.rows.length : Int) - 1))).length c146), (63, .int .i64 (IntKind.i64.wrap (p130.col - 1))), (68, .slice A314 ((rdA z_impl_Cell (rdA [] p130.rows (IntKind.i64.wrap ((p130.rows.length : Int) - 1))) (IntKind.i64.wrap (p130.col - 1))).Points).length c315)]) (obs := [fun _ => A145.isSome = true ∧ 0 ≤ (IntKind.i64.wrap (p130.col - 1)) ∧ (IntKind.i64.wrap (p130.col - 1)) < (((rdA [] p130.rows (IntKind.i64.wrap ((p130.rows.length : Int) - 1))).length : Nat) : Int), fun w => w.cell? (((A145.getD ad0).add ((IntKind.i64.wrap (p130.col - 1)).toNat * 2)).add 0) = some (.slice A314 ((rdA z_impl_Cell (rdA [] p130.rows (IntKind.i64.wrap ((p130.rows.length : Int) - 1))) (IntKind.i64.wrap (p130.col - 1))).Points).length c315)]) (by kernel_rfl) ?_ ?_
            · intro w hs; exact ⟨⟨hi149.ne (IntKind.i64.wrap (p130.col - 1)) h297 h298, h297, h298⟩, hc313 0 _ rfl hs (k := 1) rfl⟩
            refine at_eff rfl rfl ?_
            obtain ⟨b14, H319, H⟩ := bind_some H
            have hm_ := spec_l01Copy.calls (I0 := J139) H319 hr316
            refine eff_call rfl rfl ok71 rfl rfl (show Meets Try.prog 71 ([.slice A314 ((rdA z_impl_Cell (rdA [] p130.rows (IntKind.i64.wrap ((p130.rows.length : Int) - 1))) (IntKind.i64.wrap (p130.col - 1))).Points).length c315] : List Value).toArray _ [] _ from hm_) (Mr := ([(g129, .cells #[.int .i64 p130.cols, .slice A131 p130.rows.length c132, .int .i64 p130.col] 69 (0, 0))] :: s133 :: Fs)) (List.Perm.refl _) (fun v320 J321 M322 hq323 hJ324 => ?_)
            replace hle := hle.trans hJ324
            replace hd147 := hd147.mono hJ324
            replace hi149 := hi149.mono hJ324
            replace ho134 := ho134.mono hJ324
            replace hr316 := hr316.mono hJ324
            obtain ⟨A325, c326, s327, rfl, rfl, ho328⟩ := hq323
            refine at_seg [8] [9, 10, 11, 12, 13] rfl [] [62, 63, 69, 70] (L2 := [(62, .slice A145 (rdA [] p130.rows (IntKind.i64.wrap ((p130.rows.length : Int) - 1))).length c146), (63, .int .i64 (IntKind.i64.wrap (p130.col - 1))), (69, .slice A325 b14.length c326), (70, .int .i64 p135)]) (obs := []) (by kernel_rfl) ?_ ?_
            · intro w hs; exact trivial
            refine at_eff rfl rfl ?_
            refine eff_buildSlice (e := 2) (cells := #[.int .i64 p135]) ([p135] : List Int).length rfl rfl rfl (by kernel_rfl) (fun g329 => ?_)
            have ho330 := own_lit (K := (Kd.int .i64)) (e := 2) (I := J321) (xs := ([p135] : List Int)) (css := [[.int .i64 p135]]) (cells := #[.int .i64 p135]) (b := g329) ⟨rfl, trivial⟩ rfl
            refine at_eff rfl rfl ?_
            obtain ⟨h331, H⟩ := ite_some H
            obtain ⟨i_, hi_, hz_, hs_, hb_⟩ := info2
            refine eff_append (K := (Kd.int .i64)) (xs := b14) (ys := ([p135] : List Int)) 1 rfl rfl rfl rfl rfl und23 und23 hi_ hz_ hs_ rfl rfl rfl ho328 rfl (fun w hs => ho330.rowAt (k := 0) hs rfl) (by rw [hb_]; omega) (by omega) (fun A332 c333 s334 ho335 => ?_)
            refine at_seg [11, 12] [13] rfl [] [72, 74] (L2 := [(72, .slice A332 (b14 ++ ([p135] : List Int)).length c333), (74, .pointer (some (((A145.getD ad0).add ((IntKind.i64.wrap (p130.col - 1)).toNat * 2)).add 0)))]) (obs := [fun _ => A145.isSome = true ∧ 0 ≤ (IntKind.i64.wrap (p130.col - 1)) ∧ (IntKind.i64.wrap (p130.col - 1)) < (((rdA [] p130.rows (IntKind.i64.wrap ((p130.rows.length : Int) - 1))).length : Nat) : Int)]) (by kernel_rfl) ?_ ?_
            · intro w hs; exact ⟨hi149.ne (IntKind.i64.wrap (p130.col - 1)) h297 h298, h297, h298⟩
            refine at_eff rfl rfl ?_
            refine at_freeze (k := 1) rfl rfl (fun J336 hJ337 hin338 => ?_)
            replace hle := hle.trans hJ337
            replace hd147 := hd147.mono hJ337
            replace hi149 := hi149.mono hJ337
            replace ho134 := ho134.mono hJ337
            replace ho335 := ho335.mono hJ337
            have hr339 : Rd (Kd.int .i64) J336 A332 c333 (b14 ++ ([p135] : List Int)) := ho335.rd (ImmLe.refl _) hin338
            refine at_focus (D := (DK.sl k_impl_Cell 71)) 2 hd147 rfl (fun s340 s342 ho341 hh343 => ?_)
            replace ho341 : Own k_impl_Cell 71 J336 A145 c146 (rdA [] p130.rows (IntKind.i64.wrap ((p130.rows.length : Int) - 1))) s340 := ho341
            refine eff_storeOwn (K := k_impl_Cell) (u := (⟨(b14 ++ ([p135] : List Int)), (rdA z_impl_Cell (rdA [] p130.rows (IntKind.i64.wrap ((p130.rows.length : Int) - 1))) (IntKind.i64.wrap (p130.col - 1))).Attr⟩ : T_impl_Cell)) 0 0 z_impl_Cell (IntKind.i64.wrap (p130.col - 1)) rfl rfl rfl rfl ho341 rfl h297 h298 rfl rfl (Nat.le_of_ble_eq_true (by kernel_rfl)) rfl (by rintro cs_ ⟨A344, c345, rfl, hr346⟩; exact ⟨A332, c333, rfl, hr339⟩) (fun s347 ho348 => ?_)
            have hd349 := hh343.close (y := (rdA [] p130.rows (IntKind.i64.wrap ((p130.rows.length : Int) - 1))).set (IntKind.i64.wrap (p130.col - 1)).toNat (⟨(b14 ++ ([p135] : List Int)), (rdA z_impl_Cell (rdA [] p130.rows (IntKind.i64.wrap ((p130.rows.length : Int) - 1))) (IntKind.i64.wrap (p130.col - 1))).Attr⟩ : T_impl_Cell)) ((show ([.slice A145 ((rdA [] p130.rows (IntKind.i64.wrap ((p130.rows.length : Int) - 1))).set (IntKind.i64.wrap (p130.col - 1)).toNat (⟨(b14 ++ ([p135] : List Int)), (rdA z_impl_Cell (rdA [] p130.rows (IntKind.i64.wrap ((p130.rows.length : Int) - 1))) (IntKind.i64.wrap (p130.col - 1))).Attr⟩ : T_impl_Cell)).length c146] : List Value) = [.slice A145 (rdA [] p130.rows (IntKind.i64.wrap ((p130.rows.length : Int) - 1))).length c146] from by simp only [List.length_set])) ho348
            refine at_merge 0 2 rfl rfl rfl ?_
            have he350 : rdA [] (p130.rows.set (IntKind.i64.wrap ((p130.rows.length : Int) - 1)).toNat ((rdA [] p130.rows (IntKind.i64.wrap ((p130.rows.length : Int) - 1))).set (IntKind.i64.wrap (p130.col - 1)).toNat (⟨(b14 ++ ([p135] : List Int)), (rdA z_impl_Cell (rdA [] p130.rows (IntKind.i64.wrap ((p130.rows.length : Int) - 1))) (IntKind.i64.wrap (p130.col - 1))).Attr⟩ : T_impl_Cell))) (IntKind.i64.wrap ((p130.rows.length : Int) - 1)) = ((rdA [] p130.rows (IntKind.i64.wrap ((p130.rows.length : Int) - 1))).set (IntKind.i64.wrap (p130.col - 1)).toNat (⟨(b14 ++ ([p135] : List Int)), (rdA z_impl_Cell (rdA [] p130.rows (IntKind.i64.wrap ((p130.rows.length : Int) - 1))) (IntKind.i64.wrap (p130.col - 1))).Attr⟩ : T_impl_Cell)) := rdA_set _ _ h143 h144
            have hd351 : DOwn (DK.sl k_impl_Cell 71) 36 J336 A131 c132 (p130.rows.set (IntKind.i64.wrap ((p130.rows.length : Int) - 1)).toNat ((rdA [] p130.rows (IntKind.i64.wrap ((p130.rows.length : Int) - 1))).set (IntKind.i64.wrap (p130.col - 1)).toNat (⟨(b14 ++ ([p135] : List Int)), (rdA z_impl_Cell (rdA [] p130.rows (IntKind.i64.wrap ((p130.rows.length : Int) - 1))) (IntKind.i64.wrap (p130.col - 1))).Attr⟩ : T_impl_Cell))) (s347 ++ s342) := hd349.own
            have hi352 : OwnIn k_impl_Cell 71 J336 A145 c146 ((rdA [] p130.rows (IntKind.i64.wrap ((p130.rows.length : Int) - 1))).set (IntKind.i64.wrap (p130.col - 1)).toNat (⟨(b14 ++ ([p135] : List Int)), (rdA z_impl_Cell (rdA [] p130.rows (IntKind.i64.wrap ((p130.rows.length : Int) - 1))) (IntKind.i64.wrap (p130.col - 1))).Attr⟩ : T_impl_Cell)) (s347 ++ s342) := by have h_ := hd349.inn; rw [he350] at h_; exact h_
            refine at_keep [72, 74] (L2 := [(72, .slice A332 (b14 ++ ([p135] : List Int)).length c333), (74, .pointer (some (((A145.getD ad0).add ((IntKind.i64.wrap (p130.col - 1)).toNat * 2)).add 0)))]) rfl ?_
            refine at_eqM (M1 := ([(g329, .cells #[.int .i64 p135] 2 (0, 0))] :: [(g129, .cells #[.int .i64 p130.cols, .slice A131 p130.rows.length c132, .int .i64 p130.col] 69 (0, 0))] :: (s347 ++ s342) :: Fs)) (M2 := ([(g329, .cells #[.int .i64 p135] 2 (0, 0))] :: [(g129, .cells #[.int .i64 p130.cols, .slice A131 (p130.rows.set (IntKind.i64.wrap ((p130.rows.length : Int) - 1)).toNat ((rdA [] p130.rows (IntKind.i64.wrap ((p130.rows.length : Int) - 1))).set (IntKind.i64.wrap (p130.col - 1)).toNat (⟨(b14 ++ ([p135] : List Int)), (rdA z_impl_Cell (rdA [] p130.rows (IntKind.i64.wrap ((p130.rows.length : Int) - 1))) (IntKind.i64.wrap (p130.col - 1))).Attr⟩ : T_impl_Cell))).length c132, .int .i64 p130.col] 69 (0, 0))] :: (s347 ++ s342) :: Fs)) rfl (by simp only [List.length_set]) ?_
            have h353 : (IntKind.i64.wrap ((p130.rows.length : Int) - 1)) < ((p130.rows.set (IntKind.i64.wrap ((p130.rows.length : Int) - 1)).toNat ((rdA [] p130.rows (IntKind.i64.wrap ((p130.rows.length : Int) - 1))).set (IntKind.i64.wrap (p130.col - 1)).toNat (⟨(b14 ++ ([p135] : List Int)), (rdA z_impl_Cell (rdA [] p130.rows (IntKind.i64.wrap ((p130.rows.length : Int) - 1))) (IntKind.i64.wrap (p130.col - 1))).Attr⟩ : T_impl_Cell))).length : Int) := by have q_ := h144; simp only [List.length_set] at q_ ⊢; exact q_
            have h354 : (IntKind.i64.wrap (p130.col - 1)) < (((rdA [] p130.rows (IntKind.i64.wrap ((p130.rows.length : Int) - 1))).set (IntKind.i64.wrap (p130.col - 1)).toNat (⟨(b14 ++ ([p135] : List Int)), (rdA z_impl_Cell (rdA [] p130.rows (IntKind.i64.wrap ((p130.rows.length : Int) - 1))) (IntKind.i64.wrap (p130.col - 1))).Attr⟩ : T_impl_Cell)).length : Int) := by have q_ := h298; simp only [List.length_set] at q_ ⊢; exact q_
            refine at_end ?_
            refine at_thn ?_
            refine at_ret ?_
            refine at_then_ret ?_
            obtain rfl := Option.some.inj H
            refine at_drop (k := 0) rfl rfl ?_
            refine at_eqM (M1 := ([(g129, .cells #[.int .i64 p130.cols, .slice A131 (p130.rows.set (IntKind.i64.wrap ((p130.rows.length : Int) - 1)).toNat ((rdA [] p130.rows (IntKind.i64.wrap ((p130.rows.length : Int) - 1))).set (IntKind.i64.wrap (p130.col - 1)).toNat (⟨(b14 ++ ([p135] : List Int)), (rdA z_impl_Cell (rdA [] p130.rows (IntKind.i64.wrap ((p130.rows.length : Int) - 1))) (IntKind.i64.wrap (p130.col - 1))).Attr⟩ : T_impl_Cell))).length c132, .int .i64 p130.col] 69 (0, 0))] :: (s347 ++ s342) :: Fs)) (M2 := ([(g129, .cells #[.int .i64 p130.cols, .slice A131 (p130.rows.set (IntKind.i64.wrap ((p130.rows.length : Int) - 1)).toNat ((rdA [] p130.rows (IntKind.i64.wrap ((p130.rows.length : Int) - 1))).set (IntKind.i64.wrap (p130.col - 1)).toNat (⟨(b14 ++ ([p135] : List Int)), (rdA z_impl_Cell (rdA [] p130.rows (IntKind.i64.wrap ((p130.rows.length : Int) - 1))) (IntKind.i64.wrap (p130.col - 1))).Attr⟩ : T_impl_Cell))).length c132, .int .i64 p130.col] 69 (0, 0))] :: (s347 ++ s342) :: Fs)) rfl rfl ?_
            refine at_done (vs := []) (obs := []) (.inl rfl) [] [] rfl (by kernel_rfl) (fun w hs => trivial) (fun w hs => ⟨_, _, [[(g129, .cells #[.int .i64 p130.cols, .slice A131 (p130.rows.set (IntKind.i64.wrap ((p130.rows.length : Int) - 1)).toNat ((rdA [] p130.rows (IntKind.i64.wrap ((p130.rows.length : Int) - 1))).set (IntKind.i64.wrap (p130.col - 1)).toNat (⟨(b14 ++ ([p135] : List Int)), (rdA z_impl_Cell (rdA [] p130.rows (IntKind.i64.wrap ((p130.rows.length : Int) - 1))) (IntKind.i64.wrap (p130.col - 1))).Attr⟩ : T_impl_Cell))).length c132, .int .i64 p130.col] 69 (0, 0))], (s347 ++ s342)], rfl, ⟨A131, c132, (s347 ++ s342), rfl, rfl, hd351⟩, hle, hs⟩)
          · rw [if_neg h312] at H
            refine at_cond_f rfl (decide_eq_false h312) ?_
            refine at_skip ?_
            refine at_thn ?_
            refine at_ret ?_
            refine at_then_ret ?_
            obtain rfl := Option.some.inj H
            refine at_done (vs := []) (obs := []) (.inl rfl) [] [] rfl (by kernel_rfl) (fun w hs => trivial) (fun w hs => ⟨_, _, [[(g129, .cells #[.int .i64 p130.cols, .slice A131 p130.rows.length c132, .int .i64 p130.col] 69 (0, 0))], s133], rfl, ⟨A131, c132, s133, rfl, rfl, ho134⟩, hle, hs⟩)
        · rw [if_neg h305] at H
          obtain ⟨cs359, hz360, hc355⟩ := hi149.elem z_impl_Cell (IntKind.i64.wrap (p130.col - 1)) h297 h298
          obtain ⟨A356, c357, rfl, hr358⟩ := hz360
          refine at_reg [(2, .bool true), (7, .slice A356 ((rdA z_impl_Cell (rdA [] p130.rows (IntKind.i64.wrap ((p130.rows.length : Int) - 1))) (IntKind.i64.wrap (p130.col - 1))).Points).length c357), (11, .bool false)] [1, 7, 8, 61] (L2 := [(1, .int .i64 p135), (7, .slice A145 (rdA [] p130.rows (IntKind.i64.wrap ((p130.rows.length : Int) - 1))).length c146), (8, .int .i64 (IntKind.i64.wrap (p130.col - 1))), (61, .bool false)]) (obs := [fun _ => (.bool (decide ((IntKind.i64.wrap (p130.col - 1)) ≥ 0)) : Value) = .bool true, fun _ => A145.isSome = true ∧ 0 ≤ (IntKind.i64.wrap (p130.col - 1)) ∧ (IntKind.i64.wrap (p130.col - 1)) < (((rdA [] p130.rows (IntKind.i64.wrap ((p130.rows.length : Int) - 1))).length : Nat) : Int), fun w => w.cell? (((A145.getD ad0).add ((IntKind.i64.wrap (p130.col - 1)).toNat * 2)).add 0) = some (.slice A356 ((rdA z_impl_Cell (rdA [] p130.rows (IntKind.i64.wrap ((p130.rows.length : Int) - 1))) (IntKind.i64.wrap (p130.col - 1))).Points).length c357), fun _ => (.bool (decide ((((rdA z_impl_Cell (rdA [] p130.rows (IntKind.i64.wrap ((p130.rows.length : Int) - 1))) (IntKind.i64.wrap (p130.col - 1))).Points).length : Int) > 0)) : Value) = .bool false]) (by kernel_rfl) ?_ ?_
          · intro w hs; exact ⟨congrArg Value.bool (decide_eq_true h296), ⟨hi149.ne (IntKind.i64.wrap (p130.col - 1)) h297 h298, h297, h298⟩, hc355 0 _ rfl hs (k := 1) rfl, congrArg Value.bool (decide_eq_false h305)⟩
          refine at_thn ?_
          refine at_cond_f rfl (rfl) ?_
          refine at_skip ?_
          refine at_thn ?_
          refine at_ret ?_
          refine at_then_ret ?_
          obtain rfl := Option.some.inj H
          refine at_done (vs := []) (obs := []) (.inl rfl) [] [] rfl (by kernel_rfl) (fun w hs => trivial) (fun w hs => ⟨_, _, [[(g129, .cells #[.int .i64 p130.cols, .slice A131 p130.rows.length c132, .int .i64 p130.col] 69 (0, 0))], s133], rfl, ⟨A131, c132, s133, rfl, rfl, ho134⟩, hle, hs⟩)
      · rw [if_neg h296] at H
        refine at_reg [(2, .bool false)] [1, 7, 8, 61] (L2 := [(1, .int .i64 p135), (7, .slice A145 (rdA [] p130.rows (IntKind.i64.wrap ((p130.rows.length : Int) - 1))).length c146), (8, .int .i64 (IntKind.i64.wrap (p130.col - 1))), (61, .bool false)]) (obs := [fun _ => (.bool (decide ((IntKind.i64.wrap (p130.col - 1)) ≥ 0)) : Value) = .bool false]) (by kernel_rfl) ?_ ?_
        · intro w hs; exact congrArg Value.bool (decide_eq_false h296)
        refine at_thn ?_
        refine at_cond_f rfl (rfl) ?_
        refine at_skip ?_
        refine at_thn ?_
        refine at_ret ?_
        refine at_then_ret ?_
        obtain rfl := Option.some.inj H
        refine at_done (vs := []) (obs := []) (.inl rfl) [] [] rfl (by kernel_rfl) (fun w hs => trivial) (fun w hs => ⟨_, _, [[(g129, .cells #[.int .i64 p130.cols, .slice A131 p130.rows.length c132, .int .i64 p130.col] 69 (0, 0))], s133], rfl, ⟨A131, c132, s133, rfl, rfl, ho134⟩, hle, hs⟩)
  · rw [if_neg h150] at H
    refine at_cond_f rfl (beq_eq_false_iff_ne.2 h150) ?_
    refine at_skip ?_
    refine at_thn ?_
    refine at_seq ?_
    refine at_seq ?_
    refine at_regd hmo [(3, .int .i64 p130.cols), (7, .int .i64 p130.col)] [0, 1, 2, 6, 7, 85] (by kernel_rfl) (L2 := [(0, .pointer (some ⟨g129, 0, none⟩)), (1, .int .i64 p135), (2, .int .i64 p136), (6, .int .i64 b10), (7, .slice A145 (rdA [] p130.rows (IntKind.i64.wrap ((p130.rows.length : Int) - 1))).length c146), (85, .bool (decide ((IntKind.i64.wrap (p130.cols - p130.col)) < b10)))]) (obs := [fun w => w.cell? ⟨g129, 0, none⟩ = some (.int .i64 p130.cols), fun w => w.cell? ⟨g129, 2, none⟩ = some (.int .i64 p130.col)]) (by kernel_rfl) ?_ ?_
    · intro w hs; exact ⟨hs.var (k := 0) rfl 0 rfl, hs.var (k := 0) rfl 2 rfl⟩
    refine at_thn ?_
    by_cases h361 : (IntKind.i64.wrap (p130.cols - p130.col)) < b10
    · rw [if_pos h361] at H
      refine at_cond_t rfl (decide_eq_true h361) ?_
      refine at_seq ?_
      refine at_ops [0, 1] rfl ?_
      refine at_seg [0] [1] rfl [] [0, 1, 2, 6, 86] (L2 := [(0, .pointer (some ⟨g129, 0, none⟩)), (1, .int .i64 p135), (2, .int .i64 p136), (6, .int .i64 b10), (86, .pointer (some ⟨g129, 0, none⟩))]) (obs := []) (by kernel_rfl) ?_ ?_
      · intro w hs; exact trivial
      refine at_eff rfl rfl ?_
      obtain ⟨b15, H362, H⟩ := bind_some H
      refine eff_call rfl rfl ok50 rfl rfl (show Meets Try.prog 50 ([.pointer (some ⟨g129, 0, none⟩)] : List Value).toArray _ [[(g129, .cells #[.int .i64 p130.cols, .slice A131 p130.rows.length c132, .int .i64 p130.col] 69 (0, 0))], s133] _ from spec_l09Pen_next.calls H362 ho134) (Mr := (Fs)) (List.Perm.refl _) (fun v363 J364 M365 hq366 hJ367 => ?_)
      replace hle := hle.trans hJ367
      replace ho134 := ho134.mono hJ367
      obtain ⟨A368, c369, s370, rfl, rfl, ho371⟩ := hq366
      refine at_end ?_
      refine at_thn ?_
      obtain ⟨h372, H⟩ := ite_some H
      obtain ⟨h373, H⟩ := ite_some H
      obtain ⟨A374, c375, hd376⟩ := ho371.at [] (IntKind.i64.wrap ((b15.rows.length : Int) - 1)) h372 h373
      have hc377 := hd376.cells
      have hi378 : OwnIn k_impl_Cell 71 J364 A374 c375 (rdA [] b15.rows (IntKind.i64.wrap ((b15.rows.length : Int) - 1))) s370 := hd376.inn
      refine at_regd hmo [(3, .slice A368 b15.rows.length c369), (7, .slice A368 b15.rows.length c369), (11, .slice A374 (rdA [] b15.rows (IntKind.i64.wrap ((b15.rows.length : Int) - 1))).length c375)] [0, 1, 2, 6, 7] (by kernel_rfl) (L2 := [(0, .pointer (some ⟨g129, 0, none⟩)), (1, .int .i64 p135), (2, .int .i64 p136), (6, .int .i64 b10), (7, .slice A374 (rdA [] b15.rows (IntKind.i64.wrap ((b15.rows.length : Int) - 1))).length c375)]) (obs := [fun w => w.cell? ⟨g129, 1, none⟩ = some (.slice A368 b15.rows.length c369), fun w => w.cell? ⟨g129, 1, none⟩ = some (.slice A368 b15.rows.length c369), fun _ => A368.isSome = true ∧ 0 ≤ (IntKind.i64.wrap ((b15.rows.length : Int) - 1)) ∧ (IntKind.i64.wrap ((b15.rows.length : Int) - 1)) < ((b15.rows.length : Nat) : Int), fun w => w.cell? ((A368.getD ad0).add ((IntKind.i64.wrap ((b15.rows.length : Int) - 1)).toNat * 1)) = some (.slice A374 (rdA [] b15.rows (IntKind.i64.wrap ((b15.rows.length : Int) - 1))).length c375)]) (by kernel_rfl) ?_ ?_
      · intro w hs; exact ⟨hs.var (k := 0) rfl 1 rfl, hs.var (k := 0) rfl 1 rfl, ⟨ho371.ne (IntKind.i64.wrap ((b15.rows.length : Int) - 1)) h372 h373, h372, h373⟩, cell0 (hc377 0 _ rfl hs (k := 1) rfl)⟩
      refine at_thn ?_
      refine at_seq ?_
      refine at_ops [0, 1, 2, 3, 4, 5, 6, 7, 8, 9, 10] rfl ?_
      refine at_seg [0, 1, 2, 3, 4, 5] [6, 7, 8, 9, 10] rfl [(4, .int .i64 b15.col)] [0, 2, 6, 7, 100, 104, 105] (L2 := [(0, .pointer (some ⟨g129, 0, none⟩)), (2, .int .i64 p136), (6, .int .i64 b10), (7, .slice A374 (rdA [] b15.rows (IntKind.i64.wrap ((b15.rows.length : Int) - 1))).length c375), (100, .slice A374 (rdA [] b15.rows (IntKind.i64.wrap ((b15.rows.length : Int) - 1))).length c375), (104, .int .i64 b15.col), (105, .int .i64 p135)]) (obs := [fun w => w.cell? ⟨g129, 2, none⟩ = some (.int .i64 b15.col)]) (by kernel_rfl) ?_ ?_
      · intro w hs; exact hs.var (k := 0) rfl 2 rfl
      refine at_eff rfl rfl ?_
      refine eff_buildSlice (e := 2) (cells := #[.int .i64 p135]) ([p135] : List Int).length rfl rfl rfl (by kernel_rfl) (fun g379 => ?_)
      have ho380 := own_lit (K := (Kd.int .i64)) (e := 2) (I := J364) (xs := ([p135] : List Int)) (css := [[.int .i64 p135]]) (cells := #[.int .i64 p135]) (b := g379) ⟨rfl, trivial⟩ rfl
      obtain ⟨h381, H⟩ := ite_some H
      obtain ⟨h382, H⟩ := ite_some H
      refine at_seg [7, 8, 9] [10] rfl [] [0, 2, 6, 7, 108, 109] (L2 := [(0, .pointer (some ⟨g129, 0, none⟩)), (2, .int .i64 p136), (6, .int .i64 b10), (7, .slice A374 (rdA [] b15.rows (IntKind.i64.wrap ((b15.rows.length : Int) - 1))).length c375), (108, .agg #[.slice (some ⟨g379, 0, none⟩ : Option Addr) ([p135] : List Int).length (([p135] : List Int).length), .int .i64 p136]), (109, .pointer (some ((A374.getD ad0).add (b15.col.toNat * 2))))]) (obs := [fun _ => A374.isSome = true ∧ 0 ≤ b15.col ∧ b15.col < (((rdA [] b15.rows (IntKind.i64.wrap ((b15.rows.length : Int) - 1))).length : Nat) : Int)]) (by kernel_rfl) ?_ ?_
      · intro w hs; exact ⟨hi378.ne b15.col h381 h382, h381, h382⟩
      refine at_eff rfl rfl ?_
      refine at_freeze (k := 0) rfl rfl (fun J383 hJ384 hin385 => ?_)
      replace hle := hle.trans hJ384
      replace hd376 := hd376.mono hJ384
      replace hi378 := hi378.mono hJ384
      replace ho371 := ho371.mono hJ384
      replace ho380 := ho380.mono hJ384
      have hr386 : Rd (Kd.int .i64) J383 (some ⟨g379, 0, none⟩ : Option Addr) (([p135] : List Int).length) ([p135] : List Int) := ho380.rd (ImmLe.refl _) hin385
      refine at_focus (D := (DK.sl k_impl_Cell 71)) 1 hd376 rfl (fun s387 s389 ho388 hh390 => ?_)
      replace ho388 : Own k_impl_Cell 71 J383 A374 c375 (rdA [] b15.rows (IntKind.i64.wrap ((b15.rows.length : Int) - 1))) s387 := ho388
      refine eff_storeOwn (K := k_impl_Cell) (u := (⟨([p135] : List Int), p136⟩ : T_impl_Cell)) 0 0 z_impl_Cell b15.col rfl rfl rfl rfl ho388 rfl h381 h382 (add0 _).symm rfl (Nat.le_of_ble_eq_true (by kernel_rfl)) rfl (by rintro cs_ ⟨A391, c392, rfl, hr393⟩; exact ⟨(some ⟨g379, 0, none⟩ : Option Addr), ([p135] : List Int).length, rfl, hr386⟩) (fun s394 ho395 => ?_)
      have hd396 := hh390.close (y := (rdA [] b15.rows (IntKind.i64.wrap ((b15.rows.length : Int) - 1))).set b15.col.toNat (⟨([p135] : List Int), p136⟩ : T_impl_Cell)) ((show ([.slice A374 ((rdA [] b15.rows (IntKind.i64.wrap ((b15.rows.length : Int) - 1))).set b15.col.toNat (⟨([p135] : List Int), p136⟩ : T_impl_Cell)).length c375] : List Value) = [.slice A374 (rdA [] b15.rows (IntKind.i64.wrap ((b15.rows.length : Int) - 1))).length c375] from by simp only [List.length_set])) ho395
      refine at_merge 0 1 rfl rfl rfl ?_
      have he397 : rdA [] (b15.rows.set (IntKind.i64.wrap ((b15.rows.length : Int) - 1)).toNat ((rdA [] b15.rows (IntKind.i64.wrap ((b15.rows.length : Int) - 1))).set b15.col.toNat (⟨([p135] : List Int), p136⟩ : T_impl_Cell))) (IntKind.i64.wrap ((b15.rows.length : Int) - 1)) = ((rdA [] b15.rows (IntKind.i64.wrap ((b15.rows.length : Int) - 1))).set b15.col.toNat (⟨([p135] : List Int), p136⟩ : T_impl_Cell)) := rdA_set _ _ h372 h373
      have hd398 : DOwn (DK.sl k_impl_Cell 71) 36 J383 A368 c369 (b15.rows.set (IntKind.i64.wrap ((b15.rows.length : Int) - 1)).toNat ((rdA [] b15.rows (IntKind.i64.wrap ((b15.rows.length : Int) - 1))).set b15.col.toNat (⟨([p135] : List Int), p136⟩ : T_impl_Cell))) (s394 ++ s389) := hd396.own
      have hi399 : OwnIn k_impl_Cell 71 J383 A374 c375 ((rdA [] b15.rows (IntKind.i64.wrap ((b15.rows.length : Int) - 1))).set b15.col.toNat (⟨([p135] : List Int), p136⟩ : T_impl_Cell)) (s394 ++ s389) := by have h_ := hd396.inn; rw [he397] at h_; exact h_
      refine at_keep [0, 2, 6, 7, 108, 109] (L2 := [(0, .pointer (some ⟨g129, 0, none⟩)), (2, .int .i64 p136), (6, .int .i64 b10), (7, .slice A374 (rdA [] b15.rows (IntKind.i64.wrap ((b15.rows.length : Int) - 1))).length c375), (108, .agg #[.slice (some ⟨g379, 0, none⟩ : Option Addr) ([p135] : List Int).length (([p135] : List Int).length), .int .i64 p136]), (109, .pointer (some ((A374.getD ad0).add (b15.col.toNat * 2))))]) rfl ?_
      refine at_eqL2 (L1 := [(0, .pointer (some ⟨g129, 0, none⟩)), (2, .int .i64 p136), (6, .int .i64 b10), (7, .slice A374 (rdA [] b15.rows (IntKind.i64.wrap ((b15.rows.length : Int) - 1))).length c375), (108, .agg #[.slice (some ⟨g379, 0, none⟩ : Option Addr) ([p135] : List Int).length (([p135] : List Int).length), .int .i64 p136]), (109, .pointer (some ((A374.getD ad0).add (b15.col.toNat * 2))))]) (L2 := [(0, .pointer (some ⟨g129, 0, none⟩)), (2, .int .i64 p136), (6, .int .i64 b10), (7, .slice A374 ((rdA [] b15.rows (IntKind.i64.wrap ((b15.rows.length : Int) - 1))).set b15.col.toNat (⟨([p135] : List Int), p136⟩ : T_impl_Cell)).length c375), (108, .agg #[.slice (some ⟨g379, 0, none⟩ : Option Addr) ([p135] : List Int).length (([p135] : List Int).length), .int .i64 p136]), (109, .pointer (some ((A374.getD ad0).add (b15.col.toNat * 2))))]) rfl (by simp only [List.length_set]) ?_
      refine at_eqM (M1 := ([(g129, .cells #[.int .i64 b15.cols, .slice A368 b15.rows.length c369, .int .i64 b15.col] 69 (0, 0))] :: (s394 ++ s389) :: Fs)) (M2 := ([(g129, .cells #[.int .i64 b15.cols, .slice A368 (b15.rows.set (IntKind.i64.wrap ((b15.rows.length : Int) - 1)).toNat ((rdA [] b15.rows (IntKind.i64.wrap ((b15.rows.length : Int) - 1))).set b15.col.toNat (⟨([p135] : List Int), p136⟩ : T_impl_Cell))).length c369, .int .i64 b15.col] 69 (0, 0))] :: (s394 ++ s389) :: Fs)) rfl (by simp only [List.length_set]) ?_
      have h400 : (IntKind.i64.wrap ((b15.rows.length : Int) - 1)) < ((b15.rows.set (IntKind.i64.wrap ((b15.rows.length : Int) - 1)).toNat ((rdA [] b15.rows (IntKind.i64.wrap ((b15.rows.length : Int) - 1))).set b15.col.toNat (⟨([p135] : List Int), p136⟩ : T_impl_Cell))).length : Int) := by have q_ := h373; simp only [List.length_set] at q_ ⊢; exact q_
      have h401 : b15.col < (((rdA [] b15.rows (IntKind.i64.wrap ((b15.rows.length : Int) - 1))).set b15.col.toNat (⟨([p135] : List Int), p136⟩ : T_impl_Cell)).length : Int) := by have q_ := h382; simp only [List.length_set] at q_ ⊢; exact q_
      refine at_end ?_
      refine at_thn ?_
      refine at_seq ?_
      refine at_seq ?_
      refine at_reg [] [0, 2, 6, 7, 111] (L2 := [(0, .pointer (some ⟨g129, 0, none⟩)), (2, .int .i64 p136), (6, .int .i64 b10), (7, .slice A374 ((rdA [] b15.rows (IntKind.i64.wrap ((b15.rows.length : Int) - 1))).set b15.col.toNat (⟨([p135] : List Int), p136⟩ : T_impl_Cell)).length c375), (111, .bool (b10 == 2))]) (obs := []) (by kernel_rfl) ?_ ?_
      · intro w hs; exact trivial
      refine at_thn ?_
      by_cases h402 : b10 = 2
      · rw [if_pos h402] at H
        refine at_cond_t rfl (beq_iff_eq.2 h402) ?_
        refine at_ops [0, 1, 2, 3, 4, 5, 6, 7, 8, 9] rfl ?_
        obtain ⟨h403, H⟩ := ite_some H
        obtain ⟨h404, H⟩ := ite_some H
        refine at_seg [0, 1, 2, 3, 4, 5, 6, 7, 8] [9] rfl [(4, .int .i64 b15.col)] [0, 6, 119, 120] (L2 := [(0, .pointer (some ⟨g129, 0, none⟩)), (6, .int .i64 b10), (119, .agg #[.slice none ([] : List Int).length 0, .int .i64 p136]), (120, .pointer (some ((A374.getD ad0).add ((IntKind.i64.wrap (b15.col + 1)).toNat * 2))))]) (obs := [fun w => w.cell? ⟨g129, 2, none⟩ = some (.int .i64 b15.col), fun _ => A374.isSome = true ∧ 0 ≤ (IntKind.i64.wrap (b15.col + 1)) ∧ (IntKind.i64.wrap (b15.col + 1)) < ((((rdA [] b15.rows (IntKind.i64.wrap ((b15.rows.length : Int) - 1))).set b15.col.toNat (⟨([p135] : List Int), p136⟩ : T_impl_Cell)).length : Nat) : Int)]) (by kernel_rfl) ?_ ?_
        · intro w hs; exact ⟨hs.var (k := 0) rfl 2 rfl, ⟨hi399.ne (IntKind.i64.wrap (b15.col + 1)) h403 h404, h403, h404⟩⟩
        refine at_eff rfl rfl ?_
        refine at_focus (D := (DK.sl k_impl_Cell 71)) 1 hd396 rfl (fun s405 s407 ho406 hh408 => ?_)
        rw [he397] at ho406
        replace ho406 : Own k_impl_Cell 71 J383 A374 c375 ((rdA [] b15.rows (IntKind.i64.wrap ((b15.rows.length : Int) - 1))).set b15.col.toNat (⟨([p135] : List Int), p136⟩ : T_impl_Cell)) s405 := ho406
        refine eff_storeOwn (K := k_impl_Cell) (u := (⟨([] : List Int), p136⟩ : T_impl_Cell)) 0 0 z_impl_Cell (IntKind.i64.wrap (b15.col + 1)) rfl rfl rfl rfl ho406 rfl h403 h404 (add0 _).symm rfl (Nat.le_of_ble_eq_true (by kernel_rfl)) rfl (by rintro cs_ ⟨A409, c410, rfl, hr411⟩; exact ⟨none, 0, rfl, Rd.nil _ _⟩) (fun s412 ho413 => ?_)
        have hd414 := hh408.close (y := ((rdA [] b15.rows (IntKind.i64.wrap ((b15.rows.length : Int) - 1))).set b15.col.toNat (⟨([p135] : List Int), p136⟩ : T_impl_Cell)).set (IntKind.i64.wrap (b15.col + 1)).toNat (⟨([] : List Int), p136⟩ : T_impl_Cell)) (by rw [he397]; exact (show ([.slice A374 (((rdA [] b15.rows (IntKind.i64.wrap ((b15.rows.length : Int) - 1))).set b15.col.toNat (⟨([p135] : List Int), p136⟩ : T_impl_Cell)).set (IntKind.i64.wrap (b15.col + 1)).toNat (⟨([] : List Int), p136⟩ : T_impl_Cell)).length c375] : List Value) = [.slice A374 ((rdA [] b15.rows (IntKind.i64.wrap ((b15.rows.length : Int) - 1))).set b15.col.toNat (⟨([p135] : List Int), p136⟩ : T_impl_Cell)).length c375] from by simp only [List.length_set])) ho413
        refine at_merge 0 1 rfl rfl rfl ?_
        have he415 : rdA [] ((b15.rows.set (IntKind.i64.wrap ((b15.rows.length : Int) - 1)).toNat ((rdA [] b15.rows (IntKind.i64.wrap ((b15.rows.length : Int) - 1))).set b15.col.toNat (⟨([p135] : List Int), p136⟩ : T_impl_Cell))).set (IntKind.i64.wrap ((b15.rows.length : Int) - 1)).toNat (((rdA [] b15.rows (IntKind.i64.wrap ((b15.rows.length : Int) - 1))).set b15.col.toNat (⟨([p135] : List Int), p136⟩ : T_impl_Cell)).set (IntKind.i64.wrap (b15.col + 1)).toNat (⟨([] : List Int), p136⟩ : T_impl_Cell))) (IntKind.i64.wrap ((b15.rows.length : Int) - 1)) = (((rdA [] b15.rows (IntKind.i64.wrap ((b15.rows.length : Int) - 1))).set b15.col.toNat (⟨([p135] : List Int), p136⟩ : T_impl_Cell)).set (IntKind.i64.wrap (b15.col + 1)).toNat (⟨([] : List Int), p136⟩ : T_impl_Cell)) := rdA_set _ _ h372 h400
        have hd416 : DOwn (DK.sl k_impl_Cell 71) 36 J383 A368 c369 ((b15.rows.set (IntKind.i64.wrap ((b15.rows.length : Int) - 1)).toNat ((rdA [] b15.rows (IntKind.i64.wrap ((b15.rows.length : Int) - 1))).set b15.col.toNat (⟨([p135] : List Int), p136⟩ : T_impl_Cell))).set (IntKind.i64.wrap ((b15.rows.length : Int) - 1)).toNat (((rdA [] b15.rows (IntKind.i64.wrap ((b15.rows.length : Int) - 1))).set b15.col.toNat (⟨([p135] : List Int), p136⟩ : T_impl_Cell)).set (IntKind.i64.wrap (b15.col + 1)).toNat (⟨([] : List Int), p136⟩ : T_impl_Cell))) (s412 ++ s407) := hd414.own
        have hi417 : OwnIn k_impl_Cell 71 J383 A374 c375 (((rdA [] b15.rows (IntKind.i64.wrap ((b15.rows.length : Int) - 1))).set b15.col.toNat (⟨([p135] : List Int), p136⟩ : T_impl_Cell)).set (IntKind.i64.wrap (b15.col + 1)).toNat (⟨([] : List Int), p136⟩ : T_impl_Cell)) (s412 ++ s407) := by have h_ := hd414.inn; rw [he415] at h_; exact h_
        refine at_keep [0, 6, 119, 120] (L2 := [(0, .pointer (some ⟨g129, 0, none⟩)), (6, .int .i64 b10), (119, .agg #[.slice none ([] : List Int).length 0, .int .i64 p136]), (120, .pointer (some ((A374.getD ad0).add ((IntKind.i64.wrap (b15.col + 1)).toNat * 2))))]) rfl ?_
        refine at_eqM (M1 := ([(g129, .cells #[.int .i64 b15.cols, .slice A368 (b15.rows.set (IntKind.i64.wrap ((b15.rows.length : Int) - 1)).toNat ((rdA [] b15.rows (IntKind.i64.wrap ((b15.rows.length : Int) - 1))).set b15.col.toNat (⟨([p135] : List Int), p136⟩ : T_impl_Cell))).length c369, .int .i64 b15.col] 69 (0, 0))] :: (s412 ++ s407) :: Fs)) (M2 := ([(g129, .cells #[.int .i64 b15.cols, .slice A368 ((b15.rows.set (IntKind.i64.wrap ((b15.rows.length : Int) - 1)).toNat ((rdA [] b15.rows (IntKind.i64.wrap ((b15.rows.length : Int) - 1))).set b15.col.toNat (⟨([p135] : List Int), p136⟩ : T_impl_Cell))).set (IntKind.i64.wrap ((b15.rows.length : Int) - 1)).toNat (((rdA [] b15.rows (IntKind.i64.wrap ((b15.rows.length : Int) - 1))).set b15.col.toNat (⟨([p135] : List Int), p136⟩ : T_impl_Cell)).set (IntKind.i64.wrap (b15.col + 1)).toNat (⟨([] : List Int), p136⟩ : T_impl_Cell))).length c369, .int .i64 b15.col] 69 (0, 0))] :: (s412 ++ s407) :: Fs)) rfl (by simp only [List.length_set]) ?_
        have h418 : (IntKind.i64.wrap ((b15.rows.length : Int) - 1)) < (((b15.rows.set (IntKind.i64.wrap ((b15.rows.length : Int) - 1)).toNat ((rdA [] b15.rows (IntKind.i64.wrap ((b15.rows.length : Int) - 1))).set b15.col.toNat (⟨([p135] : List Int), p136⟩ : T_impl_Cell))).set (IntKind.i64.wrap ((b15.rows.length : Int) - 1)).toNat (((rdA [] b15.rows (IntKind.i64.wrap ((b15.rows.length : Int) - 1))).set b15.col.toNat (⟨([p135] : List Int), p136⟩ : T_impl_Cell)).set (IntKind.i64.wrap (b15.col + 1)).toNat (⟨([] : List Int), p136⟩ : T_impl_Cell))).length : Int) := by have q_ := h400; simp only [List.length_set] at q_ ⊢; exact q_
        have h419 : b15.col < ((((rdA [] b15.rows (IntKind.i64.wrap ((b15.rows.length : Int) - 1))).set b15.col.toNat (⟨([p135] : List Int), p136⟩ : T_impl_Cell)).set (IntKind.i64.wrap (b15.col + 1)).toNat (⟨([] : List Int), p136⟩ : T_impl_Cell)).length : Int) := by have q_ := h401; simp only [List.length_set] at q_ ⊢; exact q_
        have h420 : (IntKind.i64.wrap (b15.col + 1)) < ((((rdA [] b15.rows (IntKind.i64.wrap ((b15.rows.length : Int) - 1))).set b15.col.toNat (⟨([p135] : List Int), p136⟩ : T_impl_Cell)).set (IntKind.i64.wrap (b15.col + 1)).toNat (⟨([] : List Int), p136⟩ : T_impl_Cell)).length : Int) := by have q_ := h404; simp only [List.length_set] at q_ ⊢; exact q_
        refine at_end ?_
        refine at_thn ?_
        refine at_ops [0, 1, 2, 3, 4, 5, 6, 7, 8, 9] rfl ?_
        refine at_seg [0, 1, 2, 3, 4, 5, 6, 7, 8] [9] rfl [(4, .int .i64 b15.col)] [127, 129] (L2 := [(127, .int .i64 (IntKind.i64.wrap (b15.col + b10))), (129, .pointer (some ⟨g129, 2, none⟩))]) (obs := [fun w => w.cell? ⟨g129, 2, none⟩ = some (.int .i64 b15.col)]) (by kernel_rfl) ?_ ?_
        · intro w hs; exact hs.var (k := 0) rfl 2 rfl
        refine at_eff rfl rfl ?_
        refine eff_store 0 rfl rfl rfl rfl rfl rfl (.inl (Nat.le_refl _)) rfl (Nat.le_of_ble_eq_true (by kernel_rfl)) rfl ?_
        refine at_eqM (M1 := ([(g129, .cells #[.int .i64 b15.cols, .slice A368 ((b15.rows.set (IntKind.i64.wrap ((b15.rows.length : Int) - 1)).toNat ((rdA [] b15.rows (IntKind.i64.wrap ((b15.rows.length : Int) - 1))).set b15.col.toNat (⟨([p135] : List Int), p136⟩ : T_impl_Cell))).set (IntKind.i64.wrap ((b15.rows.length : Int) - 1)).toNat (((rdA [] b15.rows (IntKind.i64.wrap ((b15.rows.length : Int) - 1))).set b15.col.toNat (⟨([p135] : List Int), p136⟩ : T_impl_Cell)).set (IntKind.i64.wrap (b15.col + 1)).toNat (⟨([] : List Int), p136⟩ : T_impl_Cell))).length c369, .int .i64 (IntKind.i64.wrap (b15.col + b10))] 69 (0, 0))] :: (s412 ++ s407) :: Fs)) (M2 := ([(g129, .cells #[.int .i64 b15.cols, .slice A368 ((b15.rows.set (IntKind.i64.wrap ((b15.rows.length : Int) - 1)).toNat ((rdA [] b15.rows (IntKind.i64.wrap ((b15.rows.length : Int) - 1))).set b15.col.toNat (⟨([p135] : List Int), p136⟩ : T_impl_Cell))).set (IntKind.i64.wrap ((b15.rows.length : Int) - 1)).toNat (((rdA [] b15.rows (IntKind.i64.wrap ((b15.rows.length : Int) - 1))).set b15.col.toNat (⟨([p135] : List Int), p136⟩ : T_impl_Cell)).set (IntKind.i64.wrap (b15.col + 1)).toNat (⟨([] : List Int), p136⟩ : T_impl_Cell))).length c369, .int .i64 (IntKind.i64.wrap (b15.col + b10))] 69 (0, 0))] :: (s412 ++ s407) :: Fs)) rfl rfl ?_
        refine at_end ?_
        obtain rfl := Option.some.inj H
        refine at_done (vs := []) (obs := []) (.inr rfl) [] [] rfl (by kernel_rfl) (fun w hs => trivial) (fun w hs => ⟨_, _, [[(g129, .cells #[.int .i64 b15.cols, .slice A368 ((b15.rows.set (IntKind.i64.wrap ((b15.rows.length : Int) - 1)).toNat ((rdA [] b15.rows (IntKind.i64.wrap ((b15.rows.length : Int) - 1))).set b15.col.toNat (⟨([p135] : List Int), p136⟩ : T_impl_Cell))).set (IntKind.i64.wrap ((b15.rows.length : Int) - 1)).toNat (((rdA [] b15.rows (IntKind.i64.wrap ((b15.rows.length : Int) - 1))).set b15.col.toNat (⟨([p135] : List Int), p136⟩ : T_impl_Cell)).set (IntKind.i64.wrap (b15.col + 1)).toNat (⟨([] : List Int), p136⟩ : T_impl_Cell))).length c369, .int .i64 (IntKind.i64.wrap (b15.col + b10))] 69 (0, 0))], (s412 ++ s407)], rfl, ⟨A368, c369, (s412 ++ s407), rfl, rfl, hd416⟩, hle, hs⟩)
      · rw [if_neg h402] at H
        refine at_cond_f rfl (beq_eq_false_iff_ne.2 h402) ?_
        refine at_skip ?_
        refine at_thn ?_
        refine at_ops [0, 1, 2, 3, 4, 5, 6, 7, 8, 9] rfl ?_
        refine at_seg [0, 1, 2, 3, 4, 5, 6, 7, 8] [9] rfl [(4, .int .i64 b15.col)] [127, 129] (L2 := [(127, .int .i64 (IntKind.i64.wrap (b15.col + b10))), (129, .pointer (some ⟨g129, 2, none⟩))]) (obs := [fun w => w.cell? ⟨g129, 2, none⟩ = some (.int .i64 b15.col)]) (by kernel_rfl) ?_ ?_
        · intro w hs; exact hs.var (k := 0) rfl 2 rfl
        refine at_eff rfl rfl ?_
        refine eff_store 0 rfl rfl rfl rfl rfl rfl (.inl (Nat.le_refl _)) rfl (Nat.le_of_ble_eq_true (by kernel_rfl)) rfl ?_
        refine at_eqM (M1 := ([(g129, .cells #[.int .i64 b15.cols, .slice A368 (b15.rows.set (IntKind.i64.wrap ((b15.rows.length : Int) - 1)).toNat ((rdA [] b15.rows (IntKind.i64.wrap ((b15.rows.length : Int) - 1))).set b15.col.toNat (⟨([p135] : List Int), p136⟩ : T_impl_Cell))).length c369, .int .i64 (IntKind.i64.wrap (b15.col + b10))] 69 (0, 0))] :: (s394 ++ s389) :: Fs)) (M2 := ([(g129, .cells #[.int .i64 b15.cols, .slice A368 (b15.rows.set (IntKind.i64.wrap ((b15.rows.length : Int) - 1)).toNat ((rdA [] b15.rows (IntKind.i64.wrap ((b15.rows.length : Int) - 1))).set b15.col.toNat (⟨([p135] : List Int), p136⟩ : T_impl_Cell))).length c369, .int .i64 (IntKind.i64.wrap (b15.col + b10))] 69 (0, 0))] :: (s394 ++ s389) :: Fs)) rfl rfl ?_
        refine at_end ?_
        obtain rfl := Option.some.inj H
        refine at_done (vs := []) (obs := []) (.inr rfl) [] [] rfl (by kernel_rfl) (fun w hs => trivial) (fun w hs => ⟨_, _, [[(g129, .cells #[.int .i64 b15.cols, .slice A368 (b15.rows.set (IntKind.i64.wrap ((b15.rows.length : Int) - 1)).toNat ((rdA [] b15.rows (IntKind.i64.wrap ((b15.rows.length : Int) - 1))).set b15.col.toNat (⟨([p135] : List Int), p136⟩ : T_impl_Cell))).length c369, .int .i64 (IntKind.i64.wrap (b15.col + b10))] 69 (0, 0))], (s394 ++ s389)], rfl, ⟨A368, c369, (s394 ++ s389), rfl, rfl, hd398⟩, hle, hs⟩)
    · rw [if_neg h361] at H
      refine at_cond_f rfl (decide_eq_false h361) ?_
      refine at_skip ?_
      refine at_thn ?_
      refine at_seq ?_
      refine at_ops [0, 1, 2, 3, 4, 5, 6, 7, 8, 9, 10] rfl ?_
      refine at_seg [0, 1, 2, 3, 4, 5] [6, 7, 8, 9, 10] rfl [(4, .int .i64 p130.col)] [0, 2, 6, 7, 100, 104, 105] (L2 := [(0, .pointer (some ⟨g129, 0, none⟩)), (2, .int .i64 p136), (6, .int .i64 b10), (7, .slice A145 (rdA [] p130.rows (IntKind.i64.wrap ((p130.rows.length : Int) - 1))).length c146), (100, .slice A145 (rdA [] p130.rows (IntKind.i64.wrap ((p130.rows.length : Int) - 1))).length c146), (104, .int .i64 p130.col), (105, .int .i64 p135)]) (obs := [fun w => w.cell? ⟨g129, 2, none⟩ = some (.int .i64 p130.col)]) (by kernel_rfl) ?_ ?_
      · intro w hs; exact hs.var (k := 0) rfl 2 rfl
      refine at_eff rfl rfl ?_
      refine eff_buildSlice (e := 2) (cells := #[.int .i64 p135]) ([p135] : List Int).length rfl rfl rfl (by kernel_rfl) (fun g421 => ?_)
      have ho422 := own_lit (K := (Kd.int .i64)) (e := 2) (I := J139) (xs := ([p135] : List Int)) (css := [[.int .i64 p135]]) (cells := #[.int .i64 p135]) (b := g421) ⟨rfl, trivial⟩ rfl
      obtain ⟨h423, H⟩ := ite_some H
      obtain ⟨h424, H⟩ := ite_some H
      refine at_seg [7, 8, 9] [10] rfl [] [0, 2, 6, 7, 108, 109] (L2 := [(0, .pointer (some ⟨g129, 0, none⟩)), (2, .int .i64 p136), (6, .int .i64 b10), (7, .slice A145 (rdA [] p130.rows (IntKind.i64.wrap ((p130.rows.length : Int) - 1))).length c146), (108, .agg #[.slice (some ⟨g421, 0, none⟩ : Option Addr) ([p135] : List Int).length (([p135] : List Int).length), .int .i64 p136]), (109, .pointer (some ((A145.getD ad0).add (p130.col.toNat * 2))))]) (obs := [fun _ => A145.isSome = true ∧ 0 ≤ p130.col ∧ p130.col < (((rdA [] p130.rows (IntKind.i64.wrap ((p130.rows.length : Int) - 1))).length : Nat) : Int)]) (by kernel_rfl) ?_ ?_
      · intro w hs; exact ⟨hi149.ne p130.col h423 h424, h423, h424⟩
      refine at_eff rfl rfl ?_
      refine at_freeze (k := 0) rfl rfl (fun J425 hJ426 hin427 => ?_)
      replace hle := hle.trans hJ426
      replace hd147 := hd147.mono hJ426
      replace hi149 := hi149.mono hJ426
      replace ho134 := ho134.mono hJ426
      replace ho422 := ho422.mono hJ426
      have hr428 : Rd (Kd.int .i64) J425 (some ⟨g421, 0, none⟩ : Option Addr) (([p135] : List Int).length) ([p135] : List Int) := ho422.rd (ImmLe.refl _) hin427
      refine at_focus (D := (DK.sl k_impl_Cell 71)) 1 hd147 rfl (fun s429 s431 ho430 hh432 => ?_)
      replace ho430 : Own k_impl_Cell 71 J425 A145 c146 (rdA [] p130.rows (IntKind.i64.wrap ((p130.rows.length : Int) - 1))) s429 := ho430
      refine eff_storeOwn (K := k_impl_Cell) (u := (⟨([p135] : List Int), p136⟩ : T_impl_Cell)) 0 0 z_impl_Cell p130.col rfl rfl rfl rfl ho430 rfl h423 h424 (add0 _).symm rfl (Nat.le_of_ble_eq_true (by kernel_rfl)) rfl (by rintro cs_ ⟨A433, c434, rfl, hr435⟩; exact ⟨(some ⟨g421, 0, none⟩ : Option Addr), ([p135] : List Int).length, rfl, hr428⟩) (fun s436 ho437 => ?_)
      have hd438 := hh432.close (y := (rdA [] p130.rows (IntKind.i64.wrap ((p130.rows.length : Int) - 1))).set p130.col.toNat (⟨([p135] : List Int), p136⟩ : T_impl_Cell)) ((show ([.slice A145 ((rdA [] p130.rows (IntKind.i64.wrap ((p130.rows.length : Int) - 1))).set p130.col.toNat (⟨([p135] : List Int), p136⟩ : T_impl_Cell)).length c146] : List Value) = [.slice A145 (rdA [] p130.rows (IntKind.i64.wrap ((p130.rows.length : Int) - 1))).length c146] from by simp only [List.length_set])) ho437
      refine at_merge 0 1 rfl rfl rfl ?_
      have he439 : rdA [] (p130.rows.set (IntKind.i64.wrap ((p130.rows.length : Int) - 1)).toNat ((rdA [] p130.rows (IntKind.i64.wrap ((p130.rows.length : Int) - 1))).set p130.col.toNat (⟨([p135] : List Int), p136⟩ : T_impl_Cell))) (IntKind.i64.wrap ((p130.rows.length : Int) - 1)) = ((rdA [] p130.rows (IntKind.i64.wrap ((p130.rows.length : Int) - 1))).set p130.col.toNat (⟨([p135] : List Int), p136⟩ : T_impl_Cell)) := rdA_set _ _ h143 h144
      have hd440 : DOwn (DK.sl k_impl_Cell 71) 36 J425 A131 c132 (p130.rows.set (IntKind.i64.wrap ((p130.rows.length : Int) - 1)).toNat ((rdA [] p130.rows (IntKind.i64.wrap ((p130.rows.length : Int) - 1))).set p130.col.toNat (⟨([p135] : List Int), p136⟩ : T_impl_Cell))) (s436 ++ s431) := hd438.own
      have hi441 : OwnIn k_impl_Cell 71 J425 A145 c146 ((rdA [] p130.rows (IntKind.i64.wrap ((p130.rows.length : Int) - 1))).set p130.col.toNat (⟨([p135] : List Int), p136⟩ : T_impl_Cell)) (s436 ++ s431) := by have h_ := hd438.inn; rw [he439] at h_; exact h_
      refine at_keep [0, 2, 6, 7, 108, 109] (L2 := [(0, .pointer (some ⟨g129, 0, none⟩)), (2, .int .i64 p136), (6, .int .i64 b10), (7, .slice A145 (rdA [] p130.rows (IntKind.i64.wrap ((p130.rows.length : Int) - 1))).length c146), (108, .agg #[.slice (some ⟨g421, 0, none⟩ : Option Addr) ([p135] : List Int).length (([p135] : List Int).length), .int .i64 p136]), (109, .pointer (some ((A145.getD ad0).add (p130.col.toNat * 2))))]) rfl ?_
      refine at_eqL2 (L1 := [(0, .pointer (some ⟨g129, 0, none⟩)), (2, .int .i64 p136), (6, .int .i64 b10), (7, .slice A145 (rdA [] p130.rows (IntKind.i64.wrap ((p130.rows.length : Int) - 1))).length c146), (108, .agg #[.slice (some ⟨g421, 0, none⟩ : Option Addr) ([p135] : List Int).length (([p135] : List Int).length), .int .i64 p136]), (109, .pointer (some ((A145.getD ad0).add (p130.col.toNat * 2))))]) (L2 := [(0, .pointer (some ⟨g129, 0, none⟩)), (2, .int .i64 p136), (6, .int .i64 b10), (7, .slice A145 ((rdA [] p130.rows (IntKind.i64.wrap ((p130.rows.length : Int) - 1))).set p130.col.toNat (⟨([p135] : List Int), p136⟩ : T_impl_Cell)).length c146), (108, .agg #[.slice (some ⟨g421, 0, none⟩ : Option Addr) ([p135] : List Int).length (([p135] : List Int).length), .int .i64 p136]), (109, .pointer (some ((A145.getD ad0).add (p130.col.toNat * 2))))]) rfl (by simp only [List.length_set]) ?_
      refine at_eqM (M1 := ([(g129, .cells #[.int .i64 p130.cols, .slice A131 p130.rows.length c132, .int .i64 p130.col] 69 (0, 0))] :: (s436 ++ s431) :: Fs)) (M2 := ([(g129, .cells #[.int .i64 p130.cols, .slice A131 (p130.rows.set (IntKind.i64.wrap ((p130.rows.length : Int) - 1)).toNat ((rdA [] p130.rows (IntKind.i64.wrap ((p130.rows.length : Int) - 1))).set p130.col.toNat (⟨([p135] : List Int), p136⟩ : T_impl_Cell))).length c132, .int .i64 p130.col] 69 (0, 0))] :: (s436 ++ s431) :: Fs)) rfl (by simp only [List.length_set]) ?_
      have h442 : (IntKind.i64.wrap ((p130.rows.length : Int) - 1)) < ((p130.rows.set (IntKind.i64.wrap ((p130.rows.length : Int) - 1)).toNat ((rdA [] p130.rows (IntKind.i64.wrap ((p130.rows.length : Int) - 1))).set p130.col.toNat (⟨([p135] : List Int), p136⟩ : T_impl_Cell))).length : Int) := by have q_ := h144; simp only [List.length_set] at q_ ⊢; exact q_
      have h443 : p130.col < (((rdA [] p130.rows (IntKind.i64.wrap ((p130.rows.length : Int) - 1))).set p130.col.toNat (⟨([p135] : List Int), p136⟩ : T_impl_Cell)).length : Int) := by have q_ := h424; simp only [List.length_set] at q_ ⊢; exact q_
      refine at_end ?_
      refine at_thn ?_
      refine at_seq ?_
      refine at_seq ?_
      refine at_reg [] [0, 2, 6, 7, 111] (L2 := [(0, .pointer (some ⟨g129, 0, none⟩)), (2, .int .i64 p136), (6, .int .i64 b10), (7, .slice A145 ((rdA [] p130.rows (IntKind.i64.wrap ((p130.rows.length : Int) - 1))).set p130.col.toNat (⟨([p135] : List Int), p136⟩ : T_impl_Cell)).length c146), (111, .bool (b10 == 2))]) (obs := []) (by kernel_rfl) ?_ ?_
      · intro w hs; exact trivial
      refine at_thn ?_
      by_cases h444 : b10 = 2
      · rw [if_pos h444] at H
        refine at_cond_t rfl (beq_iff_eq.2 h444) ?_
        refine at_ops [0, 1, 2, 3, 4, 5, 6, 7, 8, 9] rfl ?_
        obtain ⟨h445, H⟩ := ite_some H
        obtain ⟨h446, H⟩ := ite_some H
        refine at_seg [0, 1, 2, 3, 4, 5, 6, 7, 8] [9] rfl [(4, .int .i64 p130.col)] [0, 6, 119, 120] (L2 := [(0, .pointer (some ⟨g129, 0, none⟩)), (6, .int .i64 b10), (119, .agg #[.slice none ([] : List Int).length 0, .int .i64 p136]), (120, .pointer (some ((A145.getD ad0).add ((IntKind.i64.wrap (p130.col + 1)).toNat * 2))))]) (obs := [fun w => w.cell? ⟨g129, 2, none⟩ = some (.int .i64 p130.col), fun _ => A145.isSome = true ∧ 0 ≤ (IntKind.i64.wrap (p130.col + 1)) ∧ (IntKind.i64.wrap (p130.col + 1)) < ((((rdA [] p130.rows (IntKind.i64.wrap ((p130.rows.length : Int) - 1))).set p130.col.toNat (⟨([p135] : List Int), p136⟩ : T_impl_Cell)).length : Nat) : Int)]) (by kernel_rfl) ?_ ?_
        · intro w hs; exact ⟨hs.var (k := 0) rfl 2 rfl, ⟨hi441.ne (IntKind.i64.wrap (p130.col + 1)) h445 h446, h445, h446⟩⟩
        refine at_eff rfl rfl ?_
        refine at_focus (D := (DK.sl k_impl_Cell 71)) 1 hd438 rfl (fun s447 s449 ho448 hh450 => ?_)
        rw [he439] at ho448
        replace ho448 : Own k_impl_Cell 71 J425 A145 c146 ((rdA [] p130.rows (IntKind.i64.wrap ((p130.rows.length : Int) - 1))).set p130.col.toNat (⟨([p135] : List Int), p136⟩ : T_impl_Cell)) s447 := ho448
        refine eff_storeOwn (K := k_impl_Cell) (u := (⟨([] : List Int), p136⟩ : T_impl_Cell)) 0 0 z_impl_Cell (IntKind.i64.wrap (p130.col + 1)) rfl rfl rfl rfl ho448 rfl h445 h446 (add0 _).symm rfl (Nat.le_of_ble_eq_true (by kernel_rfl)) rfl (by rintro cs_ ⟨A451, c452, rfl, hr453⟩; exact ⟨none, 0, rfl, Rd.nil _ _⟩) (fun s454 ho455 => ?_)
        have hd456 := hh450.close (y := ((rdA [] p130.rows (IntKind.i64.wrap ((p130.rows.length : Int) - 1))).set p130.col.toNat (⟨([p135] : List Int), p136⟩ : T_impl_Cell)).set (IntKind.i64.wrap (p130.col + 1)).toNat (⟨([] : List Int), p136⟩ : T_impl_Cell)) (by rw [he439]; exact (show ([.slice A145 (((rdA [] p130.rows (IntKind.i64.wrap ((p130.rows.length : Int) - 1))).set p130.col.toNat (⟨([p135] : List Int), p136⟩ : T_impl_Cell)).set (IntKind.i64.wrap (p130.col + 1)).toNat (⟨([] : List Int), p136⟩ : T_impl_Cell)).length c146] : List Value) = [.slice A145 ((rdA [] p130.rows (IntKind.i64.wrap ((p130.rows.length : Int) - 1))).set p130.col.toNat (⟨([p135] : List Int), p136⟩ : T_impl_Cell)).length c146] from by simp only [List.length_set])) ho455
        refine at_merge 0 1 rfl rfl rfl ?_
        have he457 : rdA [] ((p130.rows.set (IntKind.i64.wrap ((p130.rows.length : Int) - 1)).toNat ((rdA [] p130.rows (IntKind.i64.wrap ((p130.rows.length : Int) - 1))).set p130.col.toNat (⟨([p135] : List Int), p136⟩ : T_impl_Cell))).set (IntKind.i64.wrap ((p130.rows.length : Int) - 1)).toNat (((rdA [] p130.rows (IntKind.i64.wrap ((p130.rows.length : Int) - 1))).set p130.col.toNat (⟨([p135] : List Int), p136⟩ : T_impl_Cell)).set (IntKind.i64.wrap (p130.col + 1)).toNat (⟨([] : List Int), p136⟩ : T_impl_Cell))) (IntKind.i64.wrap ((p130.rows.length : Int) - 1)) = (((rdA [] p130.rows (IntKind.i64.wrap ((p130.rows.length : Int) - 1))).set p130.col.toNat (⟨([p135] : List Int), p136⟩ : T_impl_Cell)).set (IntKind.i64.wrap (p130.col + 1)).toNat (⟨([] : List Int), p136⟩ : T_impl_Cell)) := rdA_set _ _ h143 h442
        have hd458 : DOwn (DK.sl k_impl_Cell 71) 36 J425 A131 c132 ((p130.rows.set (IntKind.i64.wrap ((p130.rows.length : Int) - 1)).toNat ((rdA [] p130.rows (IntKind.i64.wrap ((p130.rows.length : Int) - 1))).set p130.col.toNat (⟨([p135] : List Int), p136⟩ : T_impl_Cell))).set (IntKind.i64.wrap ((p130.rows.length : Int) - 1)).toNat (((rdA [] p130.rows (IntKind.i64.wrap ((p130.rows.length : Int) - 1))).set p130.col.toNat (⟨([p135] : List Int), p136⟩ : T_impl_Cell)).set (IntKind.i64.wrap (p130.col + 1)).toNat (⟨([] : List Int), p136⟩ : T_impl_Cell))) (s454 ++ s449) := hd456.own
        have hi459 : OwnIn k_impl_Cell 71 J425 A145 c146 (((rdA [] p130.rows (IntKind.i64.wrap ((p130.rows.length : Int) - 1))).set p130.col.toNat (⟨([p135] : List Int), p136⟩ : T_impl_Cell)).set (IntKind.i64.wrap (p130.col + 1)).toNat (⟨([] : List Int), p136⟩ : T_impl_Cell)) (s454 ++ s449) := by have h_ := hd456.inn; rw [he457] at h_; exact h_
        refine at_keep [0, 6, 119, 120] (L2 := [(0, .pointer (some ⟨g129, 0, none⟩)), (6, .int .i64 b10), (119, .agg #[.slice none ([] : List Int).length 0, .int .i64 p136]), (120, .pointer (some ((A145.getD ad0).add ((IntKind.i64.wrap (p130.col + 1)).toNat * 2))))]) rfl ?_
        refine at_eqM (M1 := ([(g129, .cells #[.int .i64 p130.cols, .slice A131 (p130.rows.set (IntKind.i64.wrap ((p130.rows.length : Int) - 1)).toNat ((rdA [] p130.rows (IntKind.i64.wrap ((p130.rows.length : Int) - 1))).set p130.col.toNat (⟨([p135] : List Int), p136⟩ : T_impl_Cell))).length c132, .int .i64 p130.col] 69 (0, 0))] :: (s454 ++ s449) :: Fs)) (M2 := ([(g129, .cells #[.int .i64 p130.cols, .slice A131 ((p130.rows.set (IntKind.i64.wrap ((p130.rows.length : Int) - 1)).toNat ((rdA [] p130.rows (IntKind.i64.wrap ((p130.rows.length : Int) - 1))).set p130.col.toNat (⟨([p135] : List Int), p136⟩ : T_impl_Cell))).set (IntKind.i64.wrap ((p130.rows.length : Int) - 1)).toNat (((rdA [] p130.rows (IntKind.i64.wrap ((p130.rows.length : Int) - 1))).set p130.col.toNat (⟨([p135] : List Int), p136⟩ : T_impl_Cell)).set (IntKind.i64.wrap (p130.col + 1)).toNat (⟨([] : List Int), p136⟩ : T_impl_Cell))).length c132, .int .i64 p130.col] 69 (0, 0))] :: (s454 ++ s449) :: Fs)) rfl (by simp only [List.length_set]) ?_
        have h460 : (IntKind.i64.wrap ((p130.rows.length : Int) - 1)) < (((p130.rows.set (IntKind.i64.wrap ((p130.rows.length : Int) - 1)).toNat ((rdA [] p130.rows (IntKind.i64.wrap ((p130.rows.length : Int) - 1))).set p130.col.toNat (⟨([p135] : List Int), p136⟩ : T_impl_Cell))).set (IntKind.i64.wrap ((p130.rows.length : Int) - 1)).toNat (((rdA [] p130.rows (IntKind.i64.wrap ((p130.rows.length : Int) - 1))).set p130.col.toNat (⟨([p135] : List Int), p136⟩ : T_impl_Cell)).set (IntKind.i64.wrap (p130.col + 1)).toNat (⟨([] : List Int), p136⟩ : T_impl_Cell))).length : Int) := by have q_ := h442; simp only [List.length_set] at q_ ⊢; exact q_
        have h461 : p130.col < ((((rdA [] p130.rows (IntKind.i64.wrap ((p130.rows.length : Int) - 1))).set p130.col.toNat (⟨([p135] : List Int), p136⟩ : T_impl_Cell)).set (IntKind.i64.wrap (p130.col + 1)).toNat (⟨([] : List Int), p136⟩ : T_impl_Cell)).length : Int) := by have q_ := h443; simp only [List.length_set] at q_ ⊢; exact q_
        have h462 : (IntKind.i64.wrap (p130.col + 1)) < ((((rdA [] p130.rows (IntKind.i64.wrap ((p130.rows.length : Int) - 1))).set p130.col.toNat (⟨([p135] : List Int), p136⟩ : T_impl_Cell)).set (IntKind.i64.wrap (p130.col + 1)).toNat (⟨([] : List Int), p136⟩ : T_impl_Cell)).length : Int) := by have q_ := h446; simp only [List.length_set] at q_ ⊢; exact q_
        refine at_end ?_
        refine at_thn ?_
        refine at_ops [0, 1, 2, 3, 4, 5, 6, 7, 8, 9] rfl ?_
        refine at_seg [0, 1, 2, 3, 4, 5, 6, 7, 8] [9] rfl [(4, .int .i64 p130.col)] [127, 129] (L2 := [(127, .int .i64 (IntKind.i64.wrap (p130.col + b10))), (129, .pointer (some ⟨g129, 2, none⟩))]) (obs := [fun w => w.cell? ⟨g129, 2, none⟩ = some (.int .i64 p130.col)]) (by kernel_rfl) ?_ ?_
        · intro w hs; exact hs.var (k := 0) rfl 2 rfl
        refine at_eff rfl rfl ?_
        refine eff_store 0 rfl rfl rfl rfl rfl rfl (.inl (Nat.le_refl _)) rfl (Nat.le_of_ble_eq_true (by kernel_rfl)) rfl ?_
        refine at_eqM (M1 := ([(g129, .cells #[.int .i64 p130.cols, .slice A131 ((p130.rows.set (IntKind.i64.wrap ((p130.rows.length : Int) - 1)).toNat ((rdA [] p130.rows (IntKind.i64.wrap ((p130.rows.length : Int) - 1))).set p130.col.toNat (⟨([p135] : List Int), p136⟩ : T_impl_Cell))).set (IntKind.i64.wrap ((p130.rows.length : Int) - 1)).toNat (((rdA [] p130.rows (IntKind.i64.wrap ((p130.rows.length : Int) - 1))).set p130.col.toNat (⟨([p135] : List Int), p136⟩ : T_impl_Cell)).set (IntKind.i64.wrap (p130.col + 1)).toNat (⟨([] : List Int), p136⟩ : T_impl_Cell))).length c132, .int .i64 (IntKind.i64.wrap (p130.col + b10))] 69 (0, 0))] :: (s454 ++ s449) :: Fs)) (M2 := ([(g129, .cells #[.int .i64 p130.cols, .slice A131 ((p130.rows.set (IntKind.i64.wrap ((p130.rows.length : Int) - 1)).toNat ((rdA [] p130.rows (IntKind.i64.wrap ((p130.rows.length : Int) - 1))).set p130.col.toNat (⟨([p135] : List Int), p136⟩ : T_impl_Cell))).set (IntKind.i64.wrap ((p130.rows.length : Int) - 1)).toNat (((rdA [] p130.rows (IntKind.i64.wrap ((p130.rows.length : Int) - 1))).set p130.col.toNat (⟨([p135] : List Int), p136⟩ : T_impl_Cell)).set (IntKind.i64.wrap (p130.col + 1)).toNat (⟨([] : List Int), p136⟩ : T_impl_Cell))).length c132, .int .i64 (IntKind.i64.wrap (p130.col + b10))] 69 (0, 0))] :: (s454 ++ s449) :: Fs)) rfl rfl ?_
        refine at_end ?_
        obtain rfl := Option.some.inj H
        refine at_done (vs := []) (obs := []) (.inr rfl) [] [] rfl (by kernel_rfl) (fun w hs => trivial) (fun w hs => ⟨_, _, [[(g129, .cells #[.int .i64 p130.cols, .slice A131 ((p130.rows.set (IntKind.i64.wrap ((p130.rows.length : Int) - 1)).toNat ((rdA [] p130.rows (IntKind.i64.wrap ((p130.rows.length : Int) - 1))).set p130.col.toNat (⟨([p135] : List Int), p136⟩ : T_impl_Cell))).set (IntKind.i64.wrap ((p130.rows.length : Int) - 1)).toNat (((rdA [] p130.rows (IntKind.i64.wrap ((p130.rows.length : Int) - 1))).set p130.col.toNat (⟨([p135] : List Int), p136⟩ : T_impl_Cell)).set (IntKind.i64.wrap (p130.col + 1)).toNat (⟨([] : List Int), p136⟩ : T_impl_Cell))).length c132, .int .i64 (IntKind.i64.wrap (p130.col + b10))] 69 (0, 0))], (s454 ++ s449)], rfl, ⟨A131, c132, (s454 ++ s449), rfl, rfl, hd458⟩, hle, hs⟩)
      · rw [if_neg h444] at H
        refine at_cond_f rfl (beq_eq_false_iff_ne.2 h444) ?_
        refine at_skip ?_
        refine at_thn ?_
        refine at_ops [0, 1, 2, 3, 4, 5, 6, 7, 8, 9] rfl ?_
        refine at_seg [0, 1, 2, 3, 4, 5, 6, 7, 8] [9] rfl [(4, .int .i64 p130.col)] [127, 129] (L2 := [(127, .int .i64 (IntKind.i64.wrap (p130.col + b10))), (129, .pointer (some ⟨g129, 2, none⟩))]) (obs := [fun w => w.cell? ⟨g129, 2, none⟩ = some (.int .i64 p130.col)]) (by kernel_rfl) ?_ ?_
        · intro w hs; exact hs.var (k := 0) rfl 2 rfl
        refine at_eff rfl rfl ?_
        refine eff_store 0 rfl rfl rfl rfl rfl rfl (.inl (Nat.le_refl _)) rfl (Nat.le_of_ble_eq_true (by kernel_rfl)) rfl ?_
        refine at_eqM (M1 := ([(g129, .cells #[.int .i64 p130.cols, .slice A131 (p130.rows.set (IntKind.i64.wrap ((p130.rows.length : Int) - 1)).toNat ((rdA [] p130.rows (IntKind.i64.wrap ((p130.rows.length : Int) - 1))).set p130.col.toNat (⟨([p135] : List Int), p136⟩ : T_impl_Cell))).length c132, .int .i64 (IntKind.i64.wrap (p130.col + b10))] 69 (0, 0))] :: (s436 ++ s431) :: Fs)) (M2 := ([(g129, .cells #[.int .i64 p130.cols, .slice A131 (p130.rows.set (IntKind.i64.wrap ((p130.rows.length : Int) - 1)).toNat ((rdA [] p130.rows (IntKind.i64.wrap ((p130.rows.length : Int) - 1))).set p130.col.toNat (⟨([p135] : List Int), p136⟩ : T_impl_Cell))).length c132, .int .i64 (IntKind.i64.wrap (p130.col + b10))] 69 (0, 0))] :: (s436 ++ s431) :: Fs)) rfl rfl ?_
        refine at_end ?_
        obtain rfl := Option.some.inj H
        refine at_done (vs := []) (obs := []) (.inr rfl) [] [] rfl (by kernel_rfl) (fun w hs => trivial) (fun w hs => ⟨_, _, [[(g129, .cells #[.int .i64 p130.cols, .slice A131 (p130.rows.set (IntKind.i64.wrap ((p130.rows.length : Int) - 1)).toNat ((rdA [] p130.rows (IntKind.i64.wrap ((p130.rows.length : Int) - 1))).set p130.col.toNat (⟨([p135] : List Int), p136⟩ : T_impl_Cell))).length c132, .int .i64 (IntKind.i64.wrap (p130.col + b10))] 69 (0, 0))], (s436 ++ s431)], rfl, ⟨A131, c132, (s436 ++ s431), rfl, rfl, hd440⟩, hle, hs⟩)
end Go.Proofs.Ytnhnipdanpcbeaa
