import Derived.Test.YtnhnipdanpcbeaaV16
namespace Go.Proofs.Ytnhnipdanpcbeaa
open Go Eng
set_option linter.unusedVariables false
set_option linter.unusedSimpArgs false
/-! ### loop.example/g00146/impl.GridSame: function 16 -/
def impl_GridSame (k : Nat) (p36060 : T_impl_Grid) (p36064 : T_impl_Grid) : Option Bool := if p36060.Rows = p36064.Rows then (if p36060.Cols = p36064.Cols then ((impl_sameCells k p36060.Cells p36064.Cells).bind fun b11 => (if b11 = true then (if p36060.Row = p36064.Row then (if p36060.Col = p36064.Col then (if (p36060.Hang == p36064.Hang) = true then (some (p36060.Attr == p36064.Attr)) else (some false)) else (some false)) else (some false)) else (some false))) else (some false)) else (some false)
set_option maxHeartbeats 4000000 in
set_option maxRecDepth 100000 in
theorem impl_GridSame.calls {k : Nat} {p36060 : T_impl_Grid} {p36064 : T_impl_Grid} {r : Bool} {I0 : Imm} {A36061 : Option Addr} {c36062 : Nat} {A36065 : Option Addr} {c36066 : Nat} (H : impl_GridSame k p36060 p36064 = some r) (hr36063 : Rd k_impl_Cell I0 A36061 c36062 p36060.Cells) (hr36067 : Rd k_impl_Cell I0 A36065 c36066 p36064.Cells) :
    Meets Try.prog 16 ([.agg #[.int .i64 p36060.Rows, .int .i64 p36060.Cols, .slice A36061 p36060.Cells.length c36062, .int .i64 p36060.Row, .int .i64 p36060.Col, .bool p36060.Hang, .int .i64 p36060.Attr], .agg #[.int .i64 p36064.Rows, .int .i64 p36064.Cols, .slice A36065 p36064.Cells.length c36066, .int .i64 p36064.Row, .int .i64 p36064.Col, .bool p36064.Hang, .int .i64 p36064.Attr]] : List Value).toArray I0 [] (fun v J M => v = .bool r ∧ M = []) := by
 have hle := ImmLe.refl I0
 unfold impl_GridSame at H
 refine fn_intro (fn := Try.f16) 52 Try.func16 rfl rfl rfl (fun E Fs => ?_)
 refine at_seq (at_ops [0, 1, 2] rfl ?_)
 refine at_eff rfl rfl ?_
 refine eff_box rfl rfl rfl #[iV p36060.Rows, iV p36060.Cols, .slice A36061 p36060.Cells.length c36062, iV p36060.Row, iV p36060.Col, .bool p36060.Hang, iV p36060.Attr] rfl (fun g36068 => ?_)
 refine at_eff rfl rfl ?_
 refine eff_box rfl rfl rfl #[iV p36064.Rows, iV p36064.Cols, .slice A36065 p36064.Cells.length c36066, iV p36064.Row, iV p36064.Col, .bool p36064.Hang, iV p36064.Attr] rfl (fun g36069 => ?_)
 refine at_seg0 [2] [] [] [2, 3] [(2, .pointer (some ⟨g36068, 0, none⟩)), (3, .pointer (some ⟨g36069, 0, none⟩))] ?_
 refine at_end (at_thn (at_seq (at_ops [0, 1, 2, 3, 4, 5, 6, 7, 8, 9, 10, 11, 12, 13, 14, 15, 16, 17, 18, 19, 20, 21, 22, 23, 24, 25, 26, 27, 28, 29, 30, 31, 32, 33, 34, 35, 36, 37, 38, 39, 40, 41, 42, 43, 44, 45, 46, 47] rfl ?_)))
 by_cases h36070 : p36060.Rows = p36064.Rows
 ·
  rw [if_pos h36070] at H
  by_cases h36071 : p36060.Cols = p36064.Cols
  ·
   rw [if_pos h36071] at H
   refine at_seg1 [0, 1, 2, 3, 4, 5, 6, 7, 8, 9, 10, 11, 12, 13, 14, 15, 16] [17, 18, 19, 20, 21, 22, 23, 24, 25, 26, 27, 28, 29, 30, 31, 32, 33, 34, 35, 36, 37, 38, 39, 40, 41, 42, 43, 44, 45, 46, 47] [(1, iV p36060.Rows), (3, iV p36064.Rows), (5, .bool true), (7, iV p36060.Cols), (9, iV p36064.Cols), (12, .bool true), (14, .slice A36061 p36060.Cells.length c36062), (16, .slice A36065 p36064.Cells.length c36066)] [2, 3, 17, 19, 21] [(2, .pointer (some ⟨g36068, 0, none⟩)), (3, .pointer (some ⟨g36069, 0, none⟩)), (17, .bool true), (19, .slice A36061 p36060.Cells.length c36062), (21, .slice A36065 p36064.Cells.length c36066)] [fun w => w.cell? ⟨g36068, 0, none⟩ = some (iV p36060.Rows), fun w => w.cell? ⟨g36069, 0, none⟩ = some (iV p36064.Rows), fun _ => (.bool (p36060.Rows == p36064.Rows) : Value) = .bool true, fun w => w.cell? ⟨g36068, 1, none⟩ = some (iV p36060.Cols), fun w => w.cell? ⟨g36069, 1, none⟩ = some (iV p36064.Cols), fun _ => (.bool (p36060.Cols == p36064.Cols) : Value) = .bool true, fun w => w.cell? ⟨g36068, 2, none⟩ = some (.slice A36061 p36060.Cells.length c36062), fun w => w.cell? ⟨g36069, 2, none⟩ = some (.slice A36065 p36064.Cells.length c36066)] (fun w hs => ⟨hs.var (k := 1) rfl 0 rfl, hs.var (k := 0) rfl 0 rfl, congrArg Value.bool (beq_iff_eq.2 h36070), hs.var (k := 1) rfl 1 rfl, hs.var (k := 0) rfl 1 rfl, congrArg Value.bool (beq_iff_eq.2 h36071), hs.var (k := 1) rfl 2 rfl, hs.var (k := 0) rfl 2 rfl⟩) ?_
   refine at_eff rfl rfl ?_
   obtain ⟨b11, H36072, H⟩ := bind_some H
   have hm_ := impl_sameCells.calls (I0 := I0) H36072 hr36063 hr36067
   refine eff_call rfl rfl ok43 rfl rfl (show Meets Try.prog 43 ([.slice A36061 p36060.Cells.length c36062, .slice A36065 p36064.Cells.length c36066] : List Value).toArray _ [] _ from hm_) (Mr := ([(g36069, .cells #[iV p36064.Rows, iV p36064.Cols, .slice A36065 p36064.Cells.length c36066, iV p36064.Row, iV p36064.Col, .bool p36064.Hang, iV p36064.Attr] 38 (0, 0))] :: [(g36068, .cells #[iV p36060.Rows, iV p36060.Cols, .slice A36061 p36060.Cells.length c36062, iV p36060.Row, iV p36060.Col, .bool p36060.Hang, iV p36060.Attr] 38 (0, 0))] :: Fs)) (List.Perm.refl _) (fun v36073 J36074 M36075 hq36076 hJ36077 => ?_)
   replace hle := hle.trans hJ36077
   replace hr36063 := hr36063.mono hJ36077
   replace hr36067 := hr36067.mono hJ36077
   obtain ⟨rfl, rfl⟩ := hq36076
   by_cases h36078 : b11 = true
   ·
    rw [if_pos h36078] at H
    by_cases h36079 : p36060.Row = p36064.Row
    ·
     rw [if_pos h36079] at H
     by_cases h36080 : p36060.Col = p36064.Col
     ·
      rw [if_pos h36080] at H
      refine at_seg1 [18, 19, 20, 21, 22, 23, 24, 25, 26, 27, 28, 29, 30, 31, 32, 33, 34, 35, 36, 37] [38, 39, 40, 41, 42, 43, 44, 45, 46, 47] [(19, .bool true), (21, iV p36060.Row), (23, iV p36064.Row), (26, .bool true), (28, iV p36060.Col), (30, iV p36064.Col), (33, .bool true), (35, .bool p36060.Hang), (37, .bool p36064.Hang)] [2, 3, 38, 40, 42] [(2, .pointer (some ⟨g36068, 0, none⟩)), (3, .pointer (some ⟨g36069, 0, none⟩)), (38, .bool true), (40, .bool p36060.Hang), (42, .bool p36064.Hang)] [fun _ => (.bool b11 : Value) = .bool true, fun w => w.cell? ⟨g36068, 3, none⟩ = some (iV p36060.Row), fun w => w.cell? ⟨g36069, 3, none⟩ = some (iV p36064.Row), fun _ => (.bool (p36060.Row == p36064.Row) : Value) = .bool true, fun w => w.cell? ⟨g36068, 4, none⟩ = some (iV p36060.Col), fun w => w.cell? ⟨g36069, 4, none⟩ = some (iV p36064.Col), fun _ => (.bool (p36060.Col == p36064.Col) : Value) = .bool true, fun w => w.cell? ⟨g36068, 5, none⟩ = some (.bool p36060.Hang), fun w => w.cell? ⟨g36069, 5, none⟩ = some (.bool p36064.Hang)] (fun w hs => ⟨congrArg Value.bool (h36078), hs.var (k := 1) rfl 3 rfl, hs.var (k := 0) rfl 3 rfl, congrArg Value.bool (beq_iff_eq.2 h36079), hs.var (k := 1) rfl 4 rfl, hs.var (k := 0) rfl 4 rfl, congrArg Value.bool (beq_iff_eq.2 h36080), hs.var (k := 1) rfl 5 rfl, hs.var (k := 0) rfl 5 rfl⟩) ?_
      refine at_eff rfl rfl ?_
      refine eff_eqBool rfl rfl und4 rfl rfl ?_
      by_cases h36081 : (p36060.Hang == p36064.Hang) = true
      ·
       rw [if_pos h36081] at H
       refine at_seg1 [39, 40, 41, 42, 43, 44, 45, 46, 47] [] [(40, .bool true), (42, iV p36060.Attr), (44, iV p36064.Attr)] [4] [(4, .bool (p36060.Attr == p36064.Attr))] [fun _ => (.bool (p36060.Hang == p36064.Hang) : Value) = .bool true, fun w => w.cell? ⟨g36068, 6, none⟩ = some (iV p36060.Attr), fun w => w.cell? ⟨g36069, 6, none⟩ = some (iV p36064.Attr)] (fun w hs => ⟨congrArg Value.bool (h36081), hs.var (k := 1) rfl 6 rfl, hs.var (k := 0) rfl 6 rfl⟩) ?_
       refine at_end (at_thn (at_ret ?_))
       obtain rfl := Option.some.inj H
       refine at_drop (k := 0) rfl rfl ?_
       refine at_drop (k := 0) rfl rfl ?_
       exact at_done0 [.bool (p36060.Attr == p36064.Attr)] (.inl rfl) [.tmp 4] fun w hs => ⟨_, _, [], rfl, ⟨rfl, rfl⟩, hle, hs⟩
      ·
       rw [if_neg h36081] at H
       refine at_seg1 [39, 40, 41, 42, 43, 44, 45, 46, 47] [] [(40, .bool false)] [4] [(4, .bool false)] [fun _ => (.bool (p36060.Hang == p36064.Hang) : Value) = .bool false] (fun w hs => congrArg Value.bool (ff_of h36081)) ?_
       refine at_end (at_thn (at_ret ?_))
       obtain rfl := Option.some.inj H
       refine at_drop (k := 0) rfl rfl ?_
       refine at_drop (k := 0) rfl rfl ?_
       exact at_done0 [.bool false] (.inl rfl) [.tmp 4] fun w hs => ⟨_, _, [], rfl, ⟨rfl, rfl⟩, hle, hs⟩
     ·
      rw [if_neg h36080] at H
      refine at_seg1 [18, 19, 20, 21, 22, 23, 24, 25, 26, 27, 28, 29, 30, 31, 32, 33, 34, 35, 36, 37] [38, 39, 40, 41, 42, 43, 44, 45, 46, 47] [(19, .bool true), (21, iV p36060.Row), (23, iV p36064.Row), (26, .bool true), (28, iV p36060.Col), (30, iV p36064.Col), (33, .bool false)] [2, 3, 38, 40, 42] [(2, .pointer (some ⟨g36068, 0, none⟩)), (3, .pointer (some ⟨g36069, 0, none⟩)), (38, .bool false), (40, undef), (42, undef)] [fun _ => (.bool b11 : Value) = .bool true, fun w => w.cell? ⟨g36068, 3, none⟩ = some (iV p36060.Row), fun w => w.cell? ⟨g36069, 3, none⟩ = some (iV p36064.Row), fun _ => (.bool (p36060.Row == p36064.Row) : Value) = .bool true, fun w => w.cell? ⟨g36068, 4, none⟩ = some (iV p36060.Col), fun w => w.cell? ⟨g36069, 4, none⟩ = some (iV p36064.Col), fun _ => (.bool (p36060.Col == p36064.Col) : Value) = .bool false] (fun w hs => ⟨congrArg Value.bool (h36078), hs.var (k := 1) rfl 3 rfl, hs.var (k := 0) rfl 3 rfl, congrArg Value.bool (beq_iff_eq.2 h36079), hs.var (k := 1) rfl 4 rfl, hs.var (k := 0) rfl 4 rfl, congrArg Value.bool (beq_eq_false_iff_ne.2 h36080)⟩) ?_
      refine at_seg0 [38, 39, 40, 41, 42, 43, 44, 45, 46, 47] [] [] [4] [(4, .bool false)] ?_
      refine at_end (at_thn (at_ret ?_))
      obtain rfl := Option.some.inj H
      refine at_drop (k := 0) rfl rfl ?_
      refine at_drop (k := 0) rfl rfl ?_
      exact at_done0 [.bool false] (.inl rfl) [.tmp 4] fun w hs => ⟨_, _, [], rfl, ⟨rfl, rfl⟩, hle, hs⟩
    ·
     rw [if_neg h36079] at H
     refine at_seg1 [18, 19, 20, 21, 22, 23, 24, 25, 26, 27, 28, 29, 30, 31, 32, 33, 34, 35, 36, 37] [38, 39, 40, 41, 42, 43, 44, 45, 46, 47] [(19, .bool true), (21, iV p36060.Row), (23, iV p36064.Row), (26, .bool false)] [2, 3, 38, 40, 42] [(2, .pointer (some ⟨g36068, 0, none⟩)), (3, .pointer (some ⟨g36069, 0, none⟩)), (38, .bool false), (40, undef), (42, undef)] [fun _ => (.bool b11 : Value) = .bool true, fun w => w.cell? ⟨g36068, 3, none⟩ = some (iV p36060.Row), fun w => w.cell? ⟨g36069, 3, none⟩ = some (iV p36064.Row), fun _ => (.bool (p36060.Row == p36064.Row) : Value) = .bool false] (fun w hs => ⟨congrArg Value.bool (h36078), hs.var (k := 1) rfl 3 rfl, hs.var (k := 0) rfl 3 rfl, congrArg Value.bool (beq_eq_false_iff_ne.2 h36079)⟩) ?_
     refine at_seg0 [38, 39, 40, 41, 42, 43, 44, 45, 46, 47] [] [] [4] [(4, .bool false)] ?_
     refine at_end (at_thn (at_ret ?_))
     obtain rfl := Option.some.inj H
     refine at_drop (k := 0) rfl rfl ?_
     refine at_drop (k := 0) rfl rfl ?_
     exact at_done0 [.bool false] (.inl rfl) [.tmp 4] fun w hs => ⟨_, _, [], rfl, ⟨rfl, rfl⟩, hle, hs⟩
   ·
    rw [if_neg h36078] at H
    refine at_seg1 [18, 19, 20, 21, 22, 23, 24, 25, 26, 27, 28, 29, 30, 31, 32, 33, 34, 35, 36, 37] [38, 39, 40, 41, 42, 43, 44, 45, 46, 47] [(19, .bool false)] [2, 3, 38, 40, 42] [(2, .pointer (some ⟨g36068, 0, none⟩)), (3, .pointer (some ⟨g36069, 0, none⟩)), (38, .bool false), (40, undef), (42, undef)] [fun _ => (.bool b11 : Value) = .bool false] (fun w hs => congrArg Value.bool (ff_of h36078)) ?_
    refine at_seg0 [38, 39, 40, 41, 42, 43, 44, 45, 46, 47] [] [] [4] [(4, .bool false)] ?_
    refine at_end (at_thn (at_ret ?_))
    obtain rfl := Option.some.inj H
    refine at_drop (k := 0) rfl rfl ?_
    refine at_drop (k := 0) rfl rfl ?_
    exact at_done0 [.bool false] (.inl rfl) [.tmp 4] fun w hs => ⟨_, _, [], rfl, ⟨rfl, rfl⟩, hle, hs⟩
  ·
   rw [if_neg h36071] at H
   refine at_seg1 [0, 1, 2, 3, 4, 5, 6, 7, 8, 9, 10, 11, 12, 13, 14, 15, 16] [17, 18, 19, 20, 21, 22, 23, 24, 25, 26, 27, 28, 29, 30, 31, 32, 33, 34, 35, 36, 37, 38, 39, 40, 41, 42, 43, 44, 45, 46, 47] [(1, iV p36060.Rows), (3, iV p36064.Rows), (5, .bool true), (7, iV p36060.Cols), (9, iV p36064.Cols), (12, .bool false)] [2, 3, 17, 19, 21] [(2, .pointer (some ⟨g36068, 0, none⟩)), (3, .pointer (some ⟨g36069, 0, none⟩)), (17, .bool false), (19, undef), (21, undef)] [fun w => w.cell? ⟨g36068, 0, none⟩ = some (iV p36060.Rows), fun w => w.cell? ⟨g36069, 0, none⟩ = some (iV p36064.Rows), fun _ => (.bool (p36060.Rows == p36064.Rows) : Value) = .bool true, fun w => w.cell? ⟨g36068, 1, none⟩ = some (iV p36060.Cols), fun w => w.cell? ⟨g36069, 1, none⟩ = some (iV p36064.Cols), fun _ => (.bool (p36060.Cols == p36064.Cols) : Value) = .bool false] (fun w hs => ⟨hs.var (k := 1) rfl 0 rfl, hs.var (k := 0) rfl 0 rfl, congrArg Value.bool (beq_iff_eq.2 h36070), hs.var (k := 1) rfl 1 rfl, hs.var (k := 0) rfl 1 rfl, congrArg Value.bool (beq_eq_false_iff_ne.2 h36071)⟩) ?_
   refine at_seg0 [17, 18, 19, 20, 21, 22, 23, 24, 25, 26, 27, 28, 29, 30, 31, 32, 33, 34, 35, 36, 37] [38, 39, 40, 41, 42, 43, 44, 45, 46, 47] [] [2, 3, 38, 40, 42] [(2, .pointer (some ⟨g36068, 0, none⟩)), (3, .pointer (some ⟨g36069, 0, none⟩)), (38, .bool false), (40, undef), (42, undef)] ?_
   refine at_seg0 [38, 39, 40, 41, 42, 43, 44, 45, 46, 47] [] [] [4] [(4, .bool false)] ?_
   refine at_end (at_thn (at_ret ?_))
   obtain rfl := Option.some.inj H
   refine at_drop (k := 0) rfl rfl ?_
   refine at_drop (k := 0) rfl rfl ?_
   exact at_done0 [.bool false] (.inl rfl) [.tmp 4] fun w hs => ⟨_, _, [], rfl, ⟨rfl, rfl⟩, hle, hs⟩
 ·
  rw [if_neg h36070] at H
  refine at_seg1 [0, 1, 2, 3, 4, 5, 6, 7, 8, 9, 10, 11, 12, 13, 14, 15, 16] [17, 18, 19, 20, 21, 22, 23, 24, 25, 26, 27, 28, 29, 30, 31, 32, 33, 34, 35, 36, 37, 38, 39, 40, 41, 42, 43, 44, 45, 46, 47] [(1, iV p36060.Rows), (3, iV p36064.Rows), (5, .bool false)] [2, 3, 17, 19, 21] [(2, .pointer (some ⟨g36068, 0, none⟩)), (3, .pointer (some ⟨g36069, 0, none⟩)), (17, .bool false), (19, undef), (21, undef)] [fun w => w.cell? ⟨g36068, 0, none⟩ = some (iV p36060.Rows), fun w => w.cell? ⟨g36069, 0, none⟩ = some (iV p36064.Rows), fun _ => (.bool (p36060.Rows == p36064.Rows) : Value) = .bool false] (fun w hs => ⟨hs.var (k := 1) rfl 0 rfl, hs.var (k := 0) rfl 0 rfl, congrArg Value.bool (beq_eq_false_iff_ne.2 h36070)⟩) ?_
  refine at_seg0 [17, 18, 19, 20, 21, 22, 23, 24, 25, 26, 27, 28, 29, 30, 31, 32, 33, 34, 35, 36, 37] [38, 39, 40, 41, 42, 43, 44, 45, 46, 47] [] [2, 3, 38, 40, 42] [(2, .pointer (some ⟨g36068, 0, none⟩)), (3, .pointer (some ⟨g36069, 0, none⟩)), (38, .bool false), (40, undef), (42, undef)] ?_
  refine at_seg0 [38, 39, 40, 41, 42, 43, 44, 45, 46, 47] [] [] [4] [(4, .bool false)] ?_
  refine at_end (at_thn (at_ret ?_))
  obtain rfl := Option.some.inj H
  refine at_drop (k := 0) rfl rfl ?_
  refine at_drop (k := 0) rfl rfl ?_
  exact at_done0 [.bool false] (.inl rfl) [.tmp 4] fun w hs => ⟨_, _, [], rfl, ⟨rfl, rfl⟩, hle, hs⟩
end Go.Proofs.Ytnhnipdanpcbeaa
