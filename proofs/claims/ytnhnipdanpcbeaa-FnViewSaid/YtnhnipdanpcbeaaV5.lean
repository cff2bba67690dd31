import Derived.Test.YtnhnipdanpcbeaaV4
namespace Go.Proofs.Ytnhnipdanpcbeaa
open Go Eng
set_option linter.unusedVariables false
set_option linter.unusedSimpArgs false
/-! ### loop.example/g00146/spec.l08Wide: function 70 -/
def spec_l08Wide (k : Nat) (p246 : T_impl_Cell) : Option Bool := if (p246.Points.length : Int) > 0 then (if 0 < (p246.Points.length : Int) then ((spec_WidthOf k (rdA 0 p246.Points 0)).bind fun b9 => (some (b9 == 2))) else none) else (some false)
set_option maxHeartbeats 4000000 in
set_option maxRecDepth 100000 in
theorem spec_l08Wide.calls {k : Nat} {p246 : T_impl_Cell} {r : Bool} {I0 : Imm} {A247 : Option Addr} {c248 : Nat} (H : spec_l08Wide k p246 = some r) (hr249 : Rd (Kd.int .i64) I0 A247 c248 p246.Points) :
    Meets Try.prog 70 ([.agg #[.slice A247 p246.Points.length c248, .int .i64 p246.Attr]] : List Value).toArray I0 [] (fun v J M => v = .bool r ∧ M = []) := by
 have hle := ImmLe.refl I0
 unfold spec_l08Wide at H
 refine fn_intro (fn := Try.f70) 15 Try.func70 rfl rfl rfl (fun E Fs => ?_)
 refine at_seq (at_ops [0, 1] rfl ?_)
 refine at_eff rfl rfl ?_
 refine eff_box rfl rfl rfl #[.slice A247 p246.Points.length c248, iV p246.Attr] rfl (fun g250 => ?_)
 refine at_seg0 [1] [] [] [1] [(1, .pointer (some ⟨g250, 0, none⟩))] ?_
 refine at_end (at_thn (at_seq (at_ops [0, 1, 2, 3, 4, 5, 6, 7, 8, 9, 10, 11, 12] rfl ?_)))
 by_cases h251 : (p246.Points.length : Int) > 0
 ·
  rw [if_pos h251] at H
  obtain ⟨h252, H⟩ := ite_some H
  refine at_seg1 [0, 1, 2, 3, 4, 5, 6, 7, 8] [9, 10, 11, 12] [(1, .slice A247 p246.Points.length c248), (4, .bool true), (6, .slice A247 p246.Points.length c248), (8, iV (rdA 0 p246.Points 0))] [7, 11] [(7, .bool true), (11, iV (rdA 0 p246.Points 0))] [fun w => w.cell? ⟨g250, 0, none⟩ = some (.slice A247 p246.Points.length c248), oT ((p246.Points.length : Int) > 0), fun w => w.cell? ⟨g250, 0, none⟩ = some (.slice A247 p246.Points.length c248), fun _ => A247.isSome = true ∧ 0 ≤ (0 : Int) ∧ (0 : Int) < ((p246.Points.length : Nat) : Int), fun w => w.cell? ((A247.getD ad0).add ((0 : Int).toNat * 1)) = some (iV (rdA 0 p246.Points 0))] (fun w hs => ⟨hs.var (k := 0) rfl 0 rfl, cT (h251), hs.var (k := 0) rfl 0 rfl, ⟨hr249.ne 0 (by decide : (0 : Int) ≤ 0) h252, (by decide : (0 : Int) ≤ 0), h252⟩, hr249.one 0 0 (by decide : (0 : Int) ≤ 0) h252 hs⟩) ?_
  refine at_eff rfl rfl ?_
  obtain ⟨b9, H253, H⟩ := bind_some H
  have hm_ := spec_WidthOf.calls (I0 := I0) H253
  refine eff_call rfl rfl ok69 rfl rfl (show Meets Try.prog 69 ([iV (rdA 0 p246.Points 0)] : List Value).toArray _ [] _ from hm_) (Mr := ([(g250, .cells #[.slice A247 p246.Points.length c248, iV p246.Attr] 71 (0, 0))] :: Fs)) (List.Perm.refl _) (fun v254 J255 M256 hq257 hJ258 => ?_)
  replace hle := hle.trans hJ258
  replace hr249 := hr249.mono hJ258
  obtain ⟨rfl, rfl⟩ := hq257
  refine at_seg0 [10, 11, 12] [] [] [2] [(2, .bool (b9 == 2))] ?_
  refine at_end (at_thn (at_ret ?_))
  obtain rfl := Option.some.inj H
  refine at_drop (k := 0) rfl rfl ?_
  exact at_done0 [.bool (b9 == 2)] (.inl rfl) [.tmp 2] fun w hs => ⟨_, _, [], rfl, ⟨rfl, rfl⟩, hle, hs⟩
 ·
  rw [if_neg h251] at H
  refine at_seg1 [0, 1, 2, 3, 4, 5, 6, 7, 8] [9, 10, 11, 12] [(1, .slice A247 p246.Points.length c248), (4, .bool false)] [7, 11] [(7, .bool false), (11, undef)] [fun w => w.cell? ⟨g250, 0, none⟩ = some (.slice A247 p246.Points.length c248), oF ((p246.Points.length : Int) > 0)] (fun w hs => ⟨hs.var (k := 0) rfl 0 rfl, cF (h251)⟩) ?_
  refine at_seg0 [9, 10, 11, 12] [] [] [2] [(2, .bool false)] ?_
  refine at_end (at_thn (at_ret ?_))
  obtain rfl := Option.some.inj H
  refine at_drop (k := 0) rfl rfl ?_
  exact at_done0 [.bool false] (.inl rfl) [.tmp 2] fun w hs => ⟨_, _, [], rfl, ⟨rfl, rfl⟩, hle, hs⟩

/-! ### loop.example/g00146/spec.l01Copy: function 71 -/
def spec_l01Copy (p274 : List Int) : Option (List Int) := if ([] : List Int).length + p274.length ≤ 17592186044416 then (some (([] : List Int) ++ p274)) else none
set_option maxHeartbeats 4000000 in
set_option maxRecDepth 100000 in
theorem spec_l01Copy.calls {p274 : List Int} {r : (List Int)} {I0 : Imm} {A275 : Option Addr} {c276 : Nat} (H : spec_l01Copy p274 = some r) (hr277 : Rd (Kd.int .i64) I0 A275 c276 p274) :
    Meets Try.prog 71 ([.slice A275 p274.length c276] : List Value).toArray I0 [] (fun v J M => ∃ (A_1 : Option Addr) (c_2 : Nat) (s_3 : Seg), v = .slice A_1 r.length c_2 ∧ M = [s_3] ∧ Own (Kd.int .i64) 2 J A_1 c_2 r s_3) := by
 have hle := ImmLe.refl I0
 unfold spec_l01Copy at H
 refine fn_intro (fn := Try.f71) 6 Try.func71 rfl rfl rfl (fun E Fs => ?_)
 refine at_seq (at_reg0 [] [0] [(0, .slice A275 p274.length c276)] ?_)
 refine at_thn (at_seq (at_ops [0, 1, 2, 3] rfl ?_))
 refine at_eff rfl rfl ?_
 refine eff_buildSlice (e := 2) (cells := #[]) ([] : List Int).length rfl rfl rfl (by kernel_rfl) (fun g278 => ?_)
 have ho279 := own_lit (K := (Kd.int .i64)) (e := 2) (I := I0) (xs := ([] : List Int)) (css := []) (cells := #[]) (b := g278) trivial rfl
 refine at_seg0 [1] [2, 3] [] [3, 4] [(3, .slice (some ⟨g278, 0, none⟩ : Option Addr) ([] : List Int).length (([] : List Int).length)), (4, .slice A275 p274.length c276)] ?_
 refine at_eff rfl rfl ?_
 obtain ⟨h280, H⟩ := ite_some H
 obtain ⟨i_, hi_, hz_, hs_, hb_⟩ := info2
 refine eff_append (K := (Kd.int .i64)) (xs := ([] : List Int)) (ys := p274) 0 rfl rfl rfl rfl rfl und23 und23 hi_ hz_ hs_ rfl rfl rfl ho279 rfl (fun w hs => hr277.rowAt hs) (by rw [hb_]; omega) (by omega) (fun A281 c282 s283 ho284 => ?_)
 refine at_seg0 [3] [] [] [2] [(2, .slice A281 (([] : List Int) ++ p274).length c282)] ?_
 refine at_end (at_thn (at_ret ?_))
 obtain rfl := Option.some.inj H
 exact at_done0 [.slice A281 (([] : List Int) ++ p274).length c282] (.inl rfl) [.tmp 2] fun w hs => ⟨_, _, [s283], rfl, ⟨A281, c282, s283, rfl, rfl, ho284⟩, hle, hs⟩
end Go.Proofs.Ytnhnipdanpcbeaa
