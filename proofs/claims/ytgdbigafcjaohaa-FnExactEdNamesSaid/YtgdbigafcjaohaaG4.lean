import Derived.Test.YtgdbigafcjaohaaG3
namespace Go.Proofs.Ytgdbigafcjaohaa
open Go Eng
set_option linter.unusedVariables false
set_option linter.unusedSimpArgs false
/-! ### slices.reverseRangeOrdered[string]: function 22 -/
def slices_reverseRangeOrdered_string_l0 : Nat → (List (List UInt8)) → Int → Int → (List (List UInt8)) → Option (List (List UInt8))
  | 0, _, _, _, _ => none
  | k + 1, x91, x96, x97, p84 => if x96 < x97 then (if 0 ≤ x97 then (if x97 < (x91.length : Int) then (if 0 ≤ x96 then (if x96 < (x91.length : Int) then (if x97 < ((x91.set x96.toNat (rdA [] x91 x97)).length : Int) then (slices_reverseRangeOrdered_string_l0 k ((x91.set x96.toNat (rdA [] x91 x97)).set x97.toNat (rdA [] x91 x96)) (IntKind.i64.wrap (x96 + 1)) (IntKind.i64.wrap (x97 - 1)) p84) else none) else none) else none) else none) else none) else (if x91.length = p84.length then (some x91) else none)
def slices_reverseRangeOrdered_string (k : Nat) (p84 : List (List UInt8)) (p89 : Int) (p90 : Int) : Option (List (List UInt8)) := slices_reverseRangeOrdered_string_l0 k p84 p89 (IntKind.i64.wrap (p90 - 1)) p84
set_option maxHeartbeats 4000000 in
set_option maxRecDepth 100000 in
theorem slices_reverseRangeOrdered_string.calls {k : Nat} {p84 : List (List UInt8)} {p89 : Int} {p90 : Int} {r : (List (List UInt8))} {I0 : Imm} {A85 : Option Addr} {c86 : Nat} {s87 : Seg} (H : slices_reverseRangeOrdered_string k p84 p89 p90 = some r) (ho88 : Own Kd.string 9 I0 A85 c86 p84 s87) :
    Meets Try.prog 22 ([.slice A85 p84.length c86, .int .i64 p89, .int .i64 p90] : List Value).toArray I0 [s87] (fun v J M => ∃ (s_1 : Seg), v = .tuple #[] ∧ M = [s_1] ∧ Own Kd.string 9 J A85 c86 r s_1 ∧ r.length = p84.length) := by
  have hle := ImmLe.refl I0
  unfold slices_reverseRangeOrdered_string at H
  refine fn_intro (fn := Try.f22) 32 Try.func22 rfl rfl rfl (fun E Fs => ?_)
  refine at_seq ?_
  refine at_reg [] [0, 2, 6] (L2 := [(0, .slice A85 p84.length c86), (2, .int .i64 p90), (6, .int .i64 p89)]) (obs := []) (by kernel_rfl) ?_ ?_
  · intro w hs; exact trivial
  refine at_thn ?_
  refine at_seq ?_
  refine at_reg [] [0, 6, 7] (L2 := [(0, .slice A85 p84.length c86), (6, .int .i64 p89), (7, .int .i64 (IntKind.i64.wrap (p90 - 1)))]) (obs := []) (by kernel_rfl) ?_ ?_
  · intro w hs; exact trivial
  refine at_thn ?_
  refine at_block ?_
  refine at_keep [0, 6, 7] (L2 := [(0, .slice A85 p84.length c86), (6, .int .i64 p89), (7, .int .i64 (IntKind.i64.wrap (p90 - 1)))]) rfl ?_
  refine at_loop (fun k98 L I Ms => ∃ (x91 : List (List UInt8)) (s94 : Seg) (x96 : Int) (x97 : Int), L = [(0, .slice A85 x91.length c86), (6, .int .i64 x96), (7, .int .i64 x97)] ∧ Ms = (s94 :: Fs) ∧ slices_reverseRangeOrdered_string_l0 k98 x91 x96 x97 p84 = some r ∧ ImmLe I0 I ∧ k98 ≤ k ∧ Own Kd.string 9 I A85 c86 x91 s94) ?_ ?_ k ⟨p84, s87, p89, IntKind.i64.wrap (p90 - 1), rfl, rfl, H, hle, Nat.le_refl _, ho88⟩
  · rintro L I Ms ⟨_, _, _, _, rfl, rfl, H, _⟩; exact no_none H
  · clear H hle ho88
    intro k98 ih99 L I Ms h_; obtain ⟨x91, s94, x96, x97, hL_, hM_, H, hle, hk100, ho95⟩ := h_; rw [hL_, hM_]; clear hL_ hM_ L Ms
    rw [slices_reverseRangeOrdered_string_l0] at H
    refine at_seq ?_
    refine at_seq ?_
    refine at_reg [] [0, 6, 7, 13] (L2 := [(0, .slice A85 x91.length c86), (6, .int .i64 x96), (7, .int .i64 x97), (13, .bool (decide (x96 < x97)))]) (obs := []) (by kernel_rfl) ?_ ?_
    · intro w hs; exact trivial
    refine at_thn ?_
    by_cases h101 : x96 < x97
    · rw [if_pos h101] at H
      refine at_cond_t rfl (decide_eq_true h101) ?_
      refine at_skip ?_
      refine at_thn ?_
      refine at_block ?_
      refine at_seq ?_
      obtain ⟨h102, H⟩ := ite_some H
      obtain ⟨h103, H⟩ := ite_some H
      obtain ⟨h104, H⟩ := ite_some H
      obtain ⟨h105, H⟩ := ite_some H
      refine at_x hmo (fun w => w.cell? ((A85.getD ad0).add (x97.toNat * 1)) = some (str (rdA [] x91 x97)) ∧ w.cell? ((A85.getD ad0).add (x96.toNat * 1)) = some (str (rdA [] x91 x96))) [13, 15] ?_
      refine at_xseg [0, 1, 2, 3, 4, 5, 6, 7, 8, 9, 10, 11, 12] 3 (#[true, true, true, true, true, true, true, true, true, true, true, true, true, false, false, false]) rfl (by kernel_rfl) [(7, str (rdA [] x91 x97)), (11, str (rdA [] x91 x96))] [0, 6, 7, 16, 17, 21, 25, 26] (L2 := [(0, .slice A85 x91.length c86), (6, .int .i64 x96), (7, .int .i64 x97), (16, .slice A85 x91.length c86), (17, .int .i64 x97), (21, str (rdA [] x91 x97)), (25, str (rdA [] x91 x96)), (26, .pointer (some ((A85.getD ad0).add (x96.toNat * 1))))]) (obs := [fun _ => A85.isSome = true ∧ 0 ≤ x97 ∧ x97 < ((x91.length : Nat) : Int), fun w => w.cell? ((A85.getD ad0).add (x97.toNat * 1)) = some (str (rdA [] x91 x97)), fun _ => A85.isSome = true ∧ 0 ≤ x96 ∧ x96 < ((x91.length : Nat) : Int), fun w => w.cell? ((A85.getD ad0).add (x96.toNat * 1)) = some (str (rdA [] x91 x96)), fun _ => A85.isSome = true ∧ 0 ≤ x96 ∧ x96 < ((x91.length : Nat) : Int)]) (by kernel_rfl) (by kernel_rfl) (by kernel_rfl) (.inr fun w hs => ⟨ho95.one [] x97 h102 h103 hs (k := 0) rfl, ho95.one [] x96 h104 h105 hs (k := 0) rfl⟩) (fun w hS => ⟨⟨ho95.ne x97 h102 h103, h102, h103⟩, hS.1, ⟨ho95.ne x96 h104 h105, h104, h105⟩, hS.2, ⟨ho95.ne x96 h104 h105, h104, h105⟩⟩) (fun w hs => ⟨⟨ho95.ne x97 h102 h103, h102, h103⟩, ho95.one [] x97 h102 h103 hs (k := 0) rfl, ⟨ho95.ne x96 h104 h105, h104, h105⟩, ho95.one [] x96 h104 h105 hs (k := 0) rfl, ⟨ho95.ne x96 h104 h105, h104, h105⟩⟩) ?_
      refine at_x1 2 13 (#[true, true, true, true, true, true, true, true, true, true, true, true, true, true, false, false]) rfl (by kernel_rfl) (by kernel_rfl) rfl rfl ?_
      refine eff_storeOwn (K := Kd.string) (u := rdA [] x91 x97) 0 0 [] x96 rfl rfl rfl rfl ho95 rfl h104 h105 (add0 _).symm rfl (Nat.le_of_ble_eq_true (by kernel_rfl)) rfl (by rintro cs_ rfl; rfl) (fun s106 ho107 => ?_)
      refine at_eqL2 (L1 := [(0, .slice A85 x91.length c86), (6, .int .i64 x96), (7, .int .i64 x97), (16, .slice A85 x91.length c86), (17, .int .i64 x97), (21, str (rdA [] x91 x97)), (25, str (rdA [] x91 x96)), (26, .pointer (some ((A85.getD ad0).add (x96.toNat * 1))))]) (L2 := [(0, .slice A85 (x91.set x96.toNat (rdA [] x91 x97)).length c86), (6, .int .i64 x96), (7, .int .i64 x97), (16, .slice A85 (x91.set x96.toNat (rdA [] x91 x97)).length c86), (17, .int .i64 x97), (21, str (rdA [] x91 x97)), (25, str (rdA [] x91 x96)), (26, .pointer (some ((A85.getD ad0).add (x96.toNat * 1))))]) rfl (by simp only [List.length_set]) ?_
      refine at_xX (by kernel_rfl) ?_
      obtain ⟨h108, H⟩ := ite_some H
      refine at_xseg [14] 1 (#[true, true, true, true, true, true, true, true, true, true, true, true, true, true, true, false]) rfl (by kernel_rfl) [] [0, 6, 7, 25, 27] (L2 := [(0, .slice A85 (x91.set x96.toNat (rdA [] x91 x97)).length c86), (6, .int .i64 x96), (7, .int .i64 x97), (25, str (rdA [] x91 x96)), (27, .pointer (some ((A85.getD ad0).add (x97.toNat * 1))))]) (obs := [fun _ => A85.isSome = true ∧ 0 ≤ x97 ∧ x97 < (((x91.set x96.toNat (rdA [] x91 x97)).length : Nat) : Int)]) (by kernel_rfl) (by kernel_rfl) (by kernel_rfl) (.inl (by kernel_rfl)) (fun w hS => ⟨ho107.ne x97 h102 h108, h102, h108⟩) (fun w hs => ⟨ho107.ne x97 h102 h108, h102, h108⟩) ?_
      refine at_x1 0 15 (#[true, true, true, true, true, true, true, true, true, true, true, true, true, true, true, true]) rfl (by kernel_rfl) (by kernel_rfl) rfl rfl ?_
      refine eff_storeOwn (K := Kd.string) (u := rdA [] x91 x96) 0 0 [] x97 rfl rfl rfl rfl ho107 rfl h102 h108 (add0 _).symm rfl (Nat.le_of_ble_eq_true (by kernel_rfl)) rfl (by rintro cs_ rfl; rfl) (fun s109 ho110 => ?_)
      refine at_eqL2 (L1 := [(0, .slice A85 (x91.set x96.toNat (rdA [] x91 x97)).length c86), (6, .int .i64 x96), (7, .int .i64 x97), (25, str (rdA [] x91 x96)), (27, .pointer (some ((A85.getD ad0).add (x97.toNat * 1))))]) (L2 := [(0, .slice A85 ((x91.set x96.toNat (rdA [] x91 x97)).set x97.toNat (rdA [] x91 x96)).length c86), (6, .int .i64 x96), (7, .int .i64 x97), (25, str (rdA [] x91 x96)), (27, .pointer (some ((A85.getD ad0).add (x97.toNat * 1))))]) rfl (by simp only [List.length_set]) ?_
      refine at_xX (by kernel_rfl) ?_
      refine at_xend (by kernel_rfl) ?_
      refine at_thn ?_
      refine at_seq ?_
      refine at_reg [] [0, 6, 7] (L2 := [(0, .slice A85 ((x91.set x96.toNat (rdA [] x91 x97)).set x97.toNat (rdA [] x91 x96)).length c86), (6, .int .i64 (IntKind.i64.wrap (x96 + 1))), (7, .int .i64 x97)]) (obs := []) (by kernel_rfl) ?_ ?_
      · intro w hs; exact trivial
      refine at_thn ?_
      refine at_reg [] [0, 6, 7] (L2 := [(0, .slice A85 ((x91.set x96.toNat (rdA [] x91 x97)).set x97.toNat (rdA [] x91 x96)).length c86), (6, .int .i64 (IntKind.i64.wrap (x96 + 1))), (7, .int .i64 (IntKind.i64.wrap (x97 - 1)))]) (obs := []) (by kernel_rfl) ?_ ?_
      · intro w hs; exact trivial
      refine at_in_norm ?_
      refine at_thn ?_
      refine at_keep [0, 6, 7] (L2 := [(0, .slice A85 ((x91.set x96.toNat (rdA [] x91 x97)).set x97.toNat (rdA [] x91 x96)).length c86), (6, .int .i64 (IntKind.i64.wrap (x96 + 1))), (7, .int .i64 (IntKind.i64.wrap (x97 - 1)))]) rfl ?_
      exact ih99 _ (by omega) _ _ _ ⟨(x91.set x96.toNat (rdA [] x91 x97)).set x97.toNat (rdA [] x91 x96), s109, IntKind.i64.wrap (x96 + 1), IntKind.i64.wrap (x97 - 1), rfl, rfl, H, hle, by omega, ho110⟩
    · rw [if_neg h101] at H
      refine at_cond_f rfl (decide_eq_false h101) ?_
      refine at_exit ?_
      refine at_then_exit ?_
      refine at_then_exit ?_
      refine at_in_hit ?_
      obtain ⟨h111, H⟩ := ite_some H
      obtain rfl := Option.some.inj H
      refine at_done (vs := []) (obs := []) (.inr rfl) [] [] rfl (by kernel_rfl) (fun w hs => trivial) (fun w hs => ⟨_, _, [s94], rfl, ⟨s94, rfl, rfl, ho95, h111⟩, hle, hs⟩)
end Go.Proofs.Ytgdbigafcjaohaa
