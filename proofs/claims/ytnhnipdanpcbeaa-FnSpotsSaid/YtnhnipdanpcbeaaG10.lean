import Derived.Test.YtnhnipdanpcbeaaG9
namespace Go.Proofs.Ytnhnipdanpcbeaa
open Go Eng
set_option linter.unusedVariables false
set_option linter.unusedSimpArgs false
/-! ### loop.example/g00146/spec.l08Wide: function 70 -/
def spec_l08Wide (k : Nat) (p160 : T_impl_Cell) : Option Bool := if (p160.Points.length : Int) > 0 then (if 0 < (p160.Points.length : Int) then ((spec_WidthOf k (rdA 0 p160.Points 0)).bind fun b11 => (some (b11 == 2))) else none) else (some false)
set_option maxHeartbeats 4000000 in
set_option maxRecDepth 100000 in
theorem spec_l08Wide.calls {k : Nat} {p160 : T_impl_Cell} {r : Bool} {I0 : Imm} {A161 : Option Addr} {c162 : Nat} (H : spec_l08Wide k p160 = some r) (hr163 : Rd (Kd.int .i64) I0 A161 c162 p160.Points) :
    Meets Try.prog 70 ([.agg #[.slice A161 p160.Points.length c162, .int .i64 p160.Attr]] : List Value).toArray I0 [] (fun v J M => v = .bool r ∧ M = []) := by
  have hle := ImmLe.refl I0
  unfold spec_l08Wide at H
  refine fn_intro (fn := Try.f70) 15 Try.func70 rfl rfl rfl (fun E Fs => ?_)
  refine at_seq ?_
  refine at_ops [0, 1] rfl ?_
  refine at_eff rfl rfl ?_
  refine eff_box rfl rfl rfl #[.slice A161 p160.Points.length c162, .int .i64 p160.Attr] rfl (fun g164 => ?_)
  refine at_seg [1] [] rfl [] [1] (L2 := [(1, .pointer (some ⟨g164, 0, none⟩))]) (obs := []) (by kernel_rfl) ?_ ?_
  · intro w hs; exact trivial
  refine at_end ?_
  refine at_thn ?_
  refine at_seq ?_
  refine at_ops [0, 1, 2, 3, 4, 5, 6, 7, 8, 9, 10, 11, 12] rfl ?_
  by_cases h165 : (p160.Points.length : Int) > 0
  · rw [if_pos h165] at H
    obtain ⟨h166, H⟩ := ite_some H
    refine at_seg [0, 1, 2, 3, 4, 5, 6, 7, 8] [9, 10, 11, 12] rfl [(1, .slice A161 p160.Points.length c162), (4, .bool true), (6, .slice A161 p160.Points.length c162), (8, .int .i64 (rdA 0 p160.Points 0))] [7, 11] (L2 := [(7, .bool true), (11, .int .i64 (rdA 0 p160.Points 0))]) (obs := [fun w => w.cell? ⟨g164, 0, none⟩ = some (.slice A161 p160.Points.length c162), fun _ => (.bool (decide ((p160.Points.length : Int) > 0)) : Value) = .bool true, fun w => w.cell? ⟨g164, 0, none⟩ = some (.slice A161 p160.Points.length c162), fun _ => A161.isSome = true ∧ 0 ≤ (0 : Int) ∧ (0 : Int) < ((p160.Points.length : Nat) : Int), fun w => w.cell? ((A161.getD ad0).add ((0 : Int).toNat * 1)) = some (.int .i64 (rdA 0 p160.Points 0))]) (by kernel_rfl) ?_ ?_
    · intro w hs; exact ⟨hs.var (k := 0) rfl 0 rfl, congrArg Value.bool (decide_eq_true h165), hs.var (k := 0) rfl 0 rfl, ⟨hr163.ne 0 (by decide : (0 : Int) ≤ 0) h166, (by decide : (0 : Int) ≤ 0), h166⟩, hr163.one 0 0 (by decide : (0 : Int) ≤ 0) h166 hs⟩
    refine at_eff rfl rfl ?_
    obtain ⟨b11, H167, H⟩ := bind_some H
    have hm_ := spec_WidthOf.calls (I0 := I0) H167
    refine eff_call rfl rfl ok69 rfl rfl (show Meets Try.prog 69 ([.int .i64 (rdA 0 p160.Points 0)] : List Value).toArray _ [] _ from hm_) (Mr := ([(g164, .cells #[.slice A161 p160.Points.length c162, .int .i64 p160.Attr] 71 (0, 0))] :: Fs)) (List.Perm.refl _) (fun v168 J169 M170 hq171 hJ172 => ?_)
    replace hle := hle.trans hJ172
    replace hr163 := hr163.mono hJ172
    obtain ⟨rfl, rfl⟩ := hq171
    refine at_seg [10, 11, 12] [] rfl [] [2] (L2 := [(2, .bool (b11 == 2))]) (obs := []) (by kernel_rfl) ?_ ?_
    · intro w hs; exact trivial
    refine at_end ?_
    refine at_thn ?_
    refine at_ret ?_
    obtain rfl := Option.some.inj H
    refine at_drop (k := 0) rfl rfl ?_
    refine at_eqM (M1 := (Fs)) (M2 := (Fs)) rfl rfl ?_
    refine at_done (vs := [.bool (b11 == 2)]) (obs := []) (.inl rfl) [.tmp 2] [] rfl (by kernel_rfl) (fun w hs => trivial) (fun w hs => ⟨_, _, [], rfl, ⟨rfl, rfl⟩, hle, hs⟩)
  · rw [if_neg h165] at H
    refine at_seg [0, 1, 2, 3, 4, 5, 6, 7, 8] [9, 10, 11, 12] rfl [(1, .slice A161 p160.Points.length c162), (4, .bool false)] [7, 11] (L2 := [(7, .bool false), (11, undef)]) (obs := [fun w => w.cell? ⟨g164, 0, none⟩ = some (.slice A161 p160.Points.length c162), fun _ => (.bool (decide ((p160.Points.length : Int) > 0)) : Value) = .bool false]) (by kernel_rfl) ?_ ?_
    · intro w hs; exact ⟨hs.var (k := 0) rfl 0 rfl, congrArg Value.bool (decide_eq_false h165)⟩
    refine at_seg [9, 10, 11, 12] [] rfl [] [2] (L2 := [(2, .bool false)]) (obs := []) (by kernel_rfl) ?_ ?_
    · intro w hs; exact trivial
    refine at_end ?_
    refine at_thn ?_
    refine at_ret ?_
    obtain rfl := Option.some.inj H
    refine at_drop (k := 0) rfl rfl ?_
    refine at_eqM (M1 := (Fs)) (M2 := (Fs)) rfl rfl ?_
    refine at_done (vs := [.bool false]) (obs := []) (.inl rfl) [.tmp 2] [] rfl (by kernel_rfl) (fun w hs => trivial) (fun w hs => ⟨_, _, [], rfl, ⟨rfl, rfl⟩, hle, hs⟩)

/-! ### loop.example/g00146/spec.l01Copy: function 71 -/
def spec_l01Copy (p188 : List Int) : Option (List Int) := if ([] : List Int).length + p188.length ≤ 17592186044416 then (some (([] : List Int) ++ p188)) else none
set_option maxHeartbeats 4000000 in
set_option maxRecDepth 100000 in
theorem spec_l01Copy.calls {p188 : List Int} {r : (List Int)} {I0 : Imm} {A189 : Option Addr} {c190 : Nat} (H : spec_l01Copy p188 = some r) (hr191 : Rd (Kd.int .i64) I0 A189 c190 p188) :
    Meets Try.prog 71 ([.slice A189 p188.length c190] : List Value).toArray I0 [] (fun v J M => ∃ (A_1 : Option Addr) (c_2 : Nat) (s_3 : Seg), v = .slice A_1 r.length c_2 ∧ M = [s_3] ∧ Own (Kd.int .i64) 2 J A_1 c_2 r s_3) := by
  have hle := ImmLe.refl I0
  unfold spec_l01Copy at H
  refine fn_intro (fn := Try.f71) 6 Try.func71 rfl rfl rfl (fun E Fs => ?_)
  refine at_seq ?_
  refine at_reg [] [0] (L2 := [(0, .slice A189 p188.length c190)]) (obs := []) (by kernel_rfl) ?_ ?_
  · intro w hs; exact trivial
  refine at_thn ?_
  refine at_seq ?_
  refine at_ops [0, 1, 2, 3] rfl ?_
  refine at_eff rfl rfl ?_
  refine eff_buildSlice (e := 2) (cells := #[]) ([] : List Int).length rfl rfl rfl (by kernel_rfl) (fun g192 => ?_)
  have ho193 := own_lit (K := (Kd.int .i64)) (e := 2) (I := I0) (xs := ([] : List Int)) (css := []) (cells := #[]) (b := g192) trivial rfl
  refine at_seg [1] [2, 3] rfl [] [3, 4] (L2 := [(3, .slice (some ⟨g192, 0, none⟩ : Option Addr) ([] : List Int).length (([] : List Int).length)), (4, .slice A189 p188.length c190)]) (obs := []) (by kernel_rfl) ?_ ?_
  · intro w hs; exact trivial
  refine at_eff rfl rfl ?_
  obtain ⟨h194, H⟩ := ite_some H
  obtain ⟨i_, hi_, hz_, hs_, hb_⟩ := info2
  refine eff_append (K := (Kd.int .i64)) (xs := ([] : List Int)) (ys := p188) 0 rfl rfl rfl rfl rfl und23 und23 hi_ hz_ hs_ rfl rfl rfl ho193 rfl (fun w hs => hr191.rowAt hs) (by rw [hb_]; omega) (by omega) (fun A195 c196 s197 ho198 => ?_)
  refine at_seg [3] [] rfl [] [2] (L2 := [(2, .slice A195 (([] : List Int) ++ p188).length c196)]) (obs := []) (by kernel_rfl) ?_ ?_
  · intro w hs; exact trivial
  refine at_end ?_
  refine at_thn ?_
  refine at_ret ?_
  obtain rfl := Option.some.inj H
  refine at_done (vs := [.slice A195 (([] : List Int) ++ p188).length c196]) (obs := []) (.inl rfl) [.tmp 2] [] rfl (by kernel_rfl) (fun w hs => trivial) (fun w hs => ⟨_, _, [s197], rfl, ⟨A195, c196, s197, rfl, rfl, ho198⟩, hle, hs⟩)
end Go.Proofs.Ytnhnipdanpcbeaa
