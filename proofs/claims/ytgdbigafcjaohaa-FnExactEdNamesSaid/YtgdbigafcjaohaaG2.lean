import Derived.Test.YtgdbigafcjaohaaG1
namespace Go.Proofs.Ytgdbigafcjaohaa
open Go Eng
set_option linter.unusedVariables false
set_option linter.unusedSimpArgs false
/-! ### slices.insertionSortOrdered[string]: function 18 -/
mutual
def slices_insertionSortOrdered_string_l0 : Nat → (List (List UInt8)) → Int → (List (List UInt8)) → Int → Int → Option (List (List UInt8))
  | 0, _, _, _, _, _ => none
  | k + 1, x59, x64, p52, p57, p58 => if x64 < p58 then (slices_insertionSortOrdered_string_l1 k x59 x64 p52 p57 p58 x64) else (if x59.length = p52.length then (some x59) else none)
def slices_insertionSortOrdered_string_l1 : Nat → (List (List UInt8)) → Int → (List (List UInt8)) → Int → Int → Int → Option (List (List UInt8))
  | 0, _, _, _, _, _, _ => none
  | k + 1, x69, x74, p52, p57, p58, x64 => if x74 > p57 then (if 0 ≤ x74 then (if x74 < (x69.length : Int) then (if 0 ≤ (IntKind.i64.wrap (x74 - 1)) then (if (IntKind.i64.wrap (x74 - 1)) < (x69.length : Int) then ((cmp_Less_string (rdA [] x69 x74) (rdA [] x69 (IntKind.i64.wrap (x74 - 1)))).bind fun b4 => (if b4 = true then (if (IntKind.i64.wrap (x74 - 1)) < ((x69.set x74.toNat (rdA [] x69 (IntKind.i64.wrap (x74 - 1)))).length : Int) then (slices_insertionSortOrdered_string_l1 k ((x69.set x74.toNat (rdA [] x69 (IntKind.i64.wrap (x74 - 1)))).set (IntKind.i64.wrap (x74 - 1)).toNat (rdA [] x69 x74)) (IntKind.i64.wrap (x74 - 1)) p52 p57 p58 x64) else none) else (slices_insertionSortOrdered_string_l0 k x69 (IntKind.i64.wrap (x64 + 1)) p52 p57 p58))) else none) else none) else none) else none) else (slices_insertionSortOrdered_string_l0 k x69 (IntKind.i64.wrap (x64 + 1)) p52 p57 p58)
end
def slices_insertionSortOrdered_string (k : Nat) (p52 : List (List UInt8)) (p57 : Int) (p58 : Int) : Option (List (List UInt8)) := slices_insertionSortOrdered_string_l0 k p52 (IntKind.i64.wrap (p57 + 1)) p52 p57 p58
set_option maxHeartbeats 4000000 in
set_option maxRecDepth 100000 in
theorem slices_insertionSortOrdered_string.calls {k : Nat} {p52 : List (List UInt8)} {p57 : Int} {p58 : Int} {r : (List (List UInt8))} {I0 : Imm} {A53 : Option Addr} {c54 : Nat} {s55 : Seg} (H : slices_insertionSortOrdered_string k p52 p57 p58 = some r) (ho56 : Own Kd.string 9 I0 A53 c54 p52 s55) :
    Meets Try.prog 18 ([.slice A53 p52.length c54, .int .i64 p57, .int .i64 p58] : List Value).toArray I0 [s55] (fun v J M => ∃ (s_1 : Seg), v = .tuple #[] ∧ M = [s_1] ∧ Own Kd.string 9 J A53 c54 r s_1 ∧ r.length = p52.length) := by
  have hle := ImmLe.refl I0
  unfold slices_insertionSortOrdered_string at H
  refine fn_intro (fn := Try.f18) 49 Try.func18 rfl rfl rfl (fun E Fs => ?_)
  refine at_seq ?_
  refine at_reg [] [0, 1, 2, 6] (L2 := [(0, .slice A53 p52.length c54), (1, .int .i64 p57), (2, .int .i64 p58), (6, .int .i64 (IntKind.i64.wrap (p57 + 1)))]) (obs := []) (by kernel_rfl) ?_ ?_
  · intro w hs; exact trivial
  refine at_thn ?_
  refine at_block ?_
  refine at_keep [0, 1, 2, 6] (L2 := [(0, .slice A53 p52.length c54), (1, .int .i64 p57), (2, .int .i64 p58), (6, .int .i64 (IntKind.i64.wrap (p57 + 1)))]) rfl ?_
  refine at_loop (fun k65 L I Ms => ∃ (x59 : List (List UInt8)) (s62 : Seg) (x64 : Int), L = [(0, .slice A53 x59.length c54), (1, .int .i64 p57), (2, .int .i64 p58), (6, .int .i64 x64)] ∧ Ms = (s62 :: Fs) ∧ slices_insertionSortOrdered_string_l0 k65 x59 x64 p52 p57 p58 = some r ∧ ImmLe I0 I ∧ k65 ≤ k ∧ Own Kd.string 9 I A53 c54 x59 s62) ?_ ?_ k ⟨p52, s55, IntKind.i64.wrap (p57 + 1), rfl, rfl, H, hle, Nat.le_refl _, ho56⟩
  · rintro L I Ms ⟨_, _, _, rfl, rfl, H, _⟩; exact no_none H
  · clear H hle ho56
    intro k65 ih66 L I Ms h_; obtain ⟨x59, s62, x64, hL_, hM_, H, hle, hk67, ho63⟩ := h_; rw [hL_, hM_]; clear hL_ hM_ L Ms
    rw [slices_insertionSortOrdered_string_l0] at H
    refine at_seq ?_
    refine at_seq ?_
    refine at_reg [] [0, 1, 2, 6, 12] (L2 := [(0, .slice A53 x59.length c54), (1, .int .i64 p57), (2, .int .i64 p58), (6, .int .i64 x64), (12, .bool (decide (x64 < p58)))]) (obs := []) (by kernel_rfl) ?_ ?_
    · intro w hs; exact trivial
    refine at_thn ?_
    by_cases h68 : x64 < p58
    · rw [if_pos h68] at H
      refine at_cond_t rfl (decide_eq_true h68) ?_
      refine at_skip ?_
      refine at_thn ?_
      refine at_seq ?_
      refine at_block ?_
      refine at_seq ?_
      refine at_reg [] [0, 1, 2, 6, 7] (L2 := [(0, .slice A53 x59.length c54), (1, .int .i64 p57), (2, .int .i64 p58), (6, .int .i64 x64), (7, .int .i64 x64)]) (obs := []) (by kernel_rfl) ?_ ?_
      · intro w hs; exact trivial
      refine at_thn ?_
      refine at_block ?_
      refine at_keep [0, 1, 2, 6, 7] (L2 := [(0, .slice A53 x59.length c54), (1, .int .i64 p57), (2, .int .i64 p58), (6, .int .i64 x64), (7, .int .i64 x64)]) rfl ?_
      refine at_loop (fun k75 L I Ms => ∃ (x69 : List (List UInt8)) (s72 : Seg) (x74 : Int), L = [(0, .slice A53 x69.length c54), (1, .int .i64 p57), (2, .int .i64 p58), (6, .int .i64 x64), (7, .int .i64 x74)] ∧ Ms = (s72 :: Fs) ∧ slices_insertionSortOrdered_string_l1 k75 x69 x74 p52 p57 p58 x64 = some r ∧ ImmLe I0 I ∧ k75 ≤ k65 ∧ Own Kd.string 9 I A53 c54 x69 s72) ?_ ?_ k65 ⟨x59, s62, x64, rfl, rfl, H, hle, Nat.le_refl _, ho63⟩
      · rintro L I Ms ⟨_, _, _, rfl, rfl, H, _⟩; exact no_none H
      · clear H hle ho63
        intro k75 ih76 L I Ms h_; obtain ⟨x69, s72, x74, hL_, hM_, H, hle, hk77, ho73⟩ := h_; rw [hL_, hM_]; clear hL_ hM_ L Ms
        rw [slices_insertionSortOrdered_string_l1] at H
        refine at_seq ?_
        refine at_seq ?_
        by_cases h78 : x74 > p57
        · rw [if_pos h78] at H
          obtain ⟨h79, H⟩ := ite_some H
          obtain ⟨h80, H⟩ := ite_some H
          obtain ⟨h81, H⟩ := ite_some H
          obtain ⟨h82, H⟩ := ite_some H
          refine at_x hmo (fun w => w.cell? ((A53.getD ad0).add (x74.toNat * 1)) = some (str (rdA [] x69 x74)) ∧ w.cell? ((A53.getD ad0).add ((IntKind.i64.wrap (x74 - 1)).toNat * 1)) = some (str (rdA [] x69 (IntKind.i64.wrap (x74 - 1))))) [] ?_
          refine at_xseg [0, 1, 2, 3, 4, 5, 6, 7, 8, 9, 10, 11, 12] 2 (#[true, true, true, true, true, true, true, true, true, true, true, true, true, false, false]) rfl (by kernel_rfl) [(3, .bool true), (7, str (rdA [] x69 x74)), (12, str (rdA [] x69 (IntKind.i64.wrap (x74 - 1))))] [0, 1, 2, 6, 7, 19, 23, 28] (L2 := [(0, .slice A53 x69.length c54), (1, .int .i64 p57), (2, .int .i64 p58), (6, .int .i64 x64), (7, .int .i64 x74), (19, .bool true), (23, str (rdA [] x69 x74)), (28, str (rdA [] x69 (IntKind.i64.wrap (x74 - 1))))]) (obs := [fun _ => (.bool (decide (x74 > p57)) : Value) = .bool true, fun _ => A53.isSome = true ∧ 0 ≤ x74 ∧ x74 < ((x69.length : Nat) : Int), fun w => w.cell? ((A53.getD ad0).add (x74.toNat * 1)) = some (str (rdA [] x69 x74)), fun _ => A53.isSome = true ∧ 0 ≤ (IntKind.i64.wrap (x74 - 1)) ∧ (IntKind.i64.wrap (x74 - 1)) < ((x69.length : Nat) : Int), fun w => w.cell? ((A53.getD ad0).add ((IntKind.i64.wrap (x74 - 1)).toNat * 1)) = some (str (rdA [] x69 (IntKind.i64.wrap (x74 - 1))))]) (by kernel_rfl) (by kernel_rfl) (by kernel_rfl) (.inr fun w hs => ⟨ho73.one [] x74 h79 h80 hs (k := 0) rfl, ho73.one [] (IntKind.i64.wrap (x74 - 1)) h81 h82 hs (k := 0) rfl⟩) (fun w hS => ⟨congrArg Value.bool (decide_eq_true h78), ⟨ho73.ne x74 h79 h80, h79, h80⟩, hS.1, ⟨ho73.ne (IntKind.i64.wrap (x74 - 1)) h81 h82, h81, h82⟩, hS.2⟩) (fun w hs => ⟨congrArg Value.bool (decide_eq_true h78), ⟨ho73.ne x74 h79 h80, h79, h80⟩, ho73.one [] x74 h79 h80 hs (k := 0) rfl, ⟨ho73.ne (IntKind.i64.wrap (x74 - 1)) h81 h82, h81, h82⟩, ho73.one [] (IntKind.i64.wrap (x74 - 1)) h81 h82 hs (k := 0) rfl⟩) ?_
          refine at_x1 1 13 (#[true, true, true, true, true, true, true, true, true, true, true, true, true, true, false]) rfl (by kernel_rfl) (by kernel_rfl) rfl rfl ?_
          obtain ⟨b4, H83, H⟩ := bind_some H
          have hm_ := cmp_Less_string.calls (I0 := I) H83
          refine eff_call rfl rfl ok24 rfl rfl (show Meets Try.prog 24 ([str (rdA [] x69 x74), str (rdA [] x69 (IntKind.i64.wrap (x74 - 1)))] : List Value).toArray _ [] _ from hm_) (Mr := (s72 :: Fs)) (List.Perm.refl _) (fun v84 J85 M86 hq87 hJ88 => ?_)
          replace hle := hle.trans hJ88
          replace ho73 := ho73.mono hJ88
          obtain ⟨rfl, rfl⟩ := hq87
          refine at_xS (fun w hs => ⟨ho73.one [] x74 h79 h80 hs (k := 0) rfl, ho73.one [] (IntKind.i64.wrap (x74 - 1)) h81 h82 hs (k := 0) rfl⟩) ?_
          refine at_xseg [14] 0 (#[true, true, true, true, true, true, true, true, true, true, true, true, true, true, true]) rfl (by kernel_rfl) [] [0, 1, 2, 6, 7, 30] (L2 := [(0, .slice A53 x69.length c54), (1, .int .i64 p57), (2, .int .i64 p58), (6, .int .i64 x64), (7, .int .i64 x74), (30, .bool b4)]) (obs := []) (by kernel_rfl) (by kernel_rfl) (by kernel_rfl) (.inr fun w hs => ⟨ho73.one [] x74 h79 h80 hs (k := 0) rfl, ho73.one [] (IntKind.i64.wrap (x74 - 1)) h81 h82 hs (k := 0) rfl⟩) (fun w hS => trivial) (fun w hs => trivial) ?_
          refine at_xend (by kernel_rfl) ?_
          refine at_thn ?_
          by_cases h89 : b4 = true
          · rw [if_pos h89] at H
            refine at_cond_t rfl (h89) ?_
            refine at_skip ?_
            refine at_thn ?_
            refine at_seq ?_
            refine at_block ?_
            refine at_x hmo (fun w => w.cell? ((A53.getD ad0).add ((IntKind.i64.wrap (x74 - 1)).toNat * 1)) = some (str (rdA [] x69 (IntKind.i64.wrap (x74 - 1)))) ∧ w.cell? ((A53.getD ad0).add (x74.toNat * 1)) = some (str (rdA [] x69 x74))) [15, 17] ?_
            refine at_xseg [0, 1, 2, 3, 4, 5, 6, 7, 8, 9, 10, 11, 12, 13, 14] 3 (#[true, true, true, true, true, true, true, true, true, true, true, true, true, true, true, false, false, false]) rfl (by kernel_rfl) [(9, str (rdA [] x69 (IntKind.i64.wrap (x74 - 1)))), (13, str (rdA [] x69 x74))] [0, 1, 2, 6, 7, 35, 37, 42, 46, 47] (L2 := [(0, .slice A53 x69.length c54), (1, .int .i64 p57), (2, .int .i64 p58), (6, .int .i64 x64), (7, .int .i64 x74), (35, .slice A53 x69.length c54), (37, .int .i64 (IntKind.i64.wrap (x74 - 1))), (42, str (rdA [] x69 (IntKind.i64.wrap (x74 - 1)))), (46, str (rdA [] x69 x74)), (47, .pointer (some ((A53.getD ad0).add (x74.toNat * 1))))]) (obs := [fun _ => A53.isSome = true ∧ 0 ≤ (IntKind.i64.wrap (x74 - 1)) ∧ (IntKind.i64.wrap (x74 - 1)) < ((x69.length : Nat) : Int), fun w => w.cell? ((A53.getD ad0).add ((IntKind.i64.wrap (x74 - 1)).toNat * 1)) = some (str (rdA [] x69 (IntKind.i64.wrap (x74 - 1)))), fun _ => A53.isSome = true ∧ 0 ≤ x74 ∧ x74 < ((x69.length : Nat) : Int), fun w => w.cell? ((A53.getD ad0).add (x74.toNat * 1)) = some (str (rdA [] x69 x74)), fun _ => A53.isSome = true ∧ 0 ≤ x74 ∧ x74 < ((x69.length : Nat) : Int)]) (by kernel_rfl) (by kernel_rfl) (by kernel_rfl) (.inr fun w hs => ⟨ho73.one [] (IntKind.i64.wrap (x74 - 1)) h81 h82 hs (k := 0) rfl, ho73.one [] x74 h79 h80 hs (k := 0) rfl⟩) (fun w hS => ⟨⟨ho73.ne (IntKind.i64.wrap (x74 - 1)) h81 h82, h81, h82⟩, hS.1, ⟨ho73.ne x74 h79 h80, h79, h80⟩, hS.2, ⟨ho73.ne x74 h79 h80, h79, h80⟩⟩) (fun w hs => ⟨⟨ho73.ne (IntKind.i64.wrap (x74 - 1)) h81 h82, h81, h82⟩, ho73.one [] (IntKind.i64.wrap (x74 - 1)) h81 h82 hs (k := 0) rfl, ⟨ho73.ne x74 h79 h80, h79, h80⟩, ho73.one [] x74 h79 h80 hs (k := 0) rfl, ⟨ho73.ne x74 h79 h80, h79, h80⟩⟩) ?_
            refine at_x1 2 15 (#[true, true, true, true, true, true, true, true, true, true, true, true, true, true, true, true, false, false]) rfl (by kernel_rfl) (by kernel_rfl) rfl rfl ?_
            refine eff_storeOwn (K := Kd.string) (u := rdA [] x69 (IntKind.i64.wrap (x74 - 1))) 0 0 [] x74 rfl rfl rfl rfl ho73 rfl h79 h80 (add0 _).symm rfl (Nat.le_of_ble_eq_true (by kernel_rfl)) rfl (by rintro cs_ rfl; rfl) (fun s90 ho91 => ?_)
            refine at_eqL2 (L1 := [(0, .slice A53 x69.length c54), (1, .int .i64 p57), (2, .int .i64 p58), (6, .int .i64 x64), (7, .int .i64 x74), (35, .slice A53 x69.length c54), (37, .int .i64 (IntKind.i64.wrap (x74 - 1))), (42, str (rdA [] x69 (IntKind.i64.wrap (x74 - 1)))), (46, str (rdA [] x69 x74)), (47, .pointer (some ((A53.getD ad0).add (x74.toNat * 1))))]) (L2 := [(0, .slice A53 (x69.set x74.toNat (rdA [] x69 (IntKind.i64.wrap (x74 - 1)))).length c54), (1, .int .i64 p57), (2, .int .i64 p58), (6, .int .i64 x64), (7, .int .i64 x74), (35, .slice A53 (x69.set x74.toNat (rdA [] x69 (IntKind.i64.wrap (x74 - 1)))).length c54), (37, .int .i64 (IntKind.i64.wrap (x74 - 1))), (42, str (rdA [] x69 (IntKind.i64.wrap (x74 - 1)))), (46, str (rdA [] x69 x74)), (47, .pointer (some ((A53.getD ad0).add (x74.toNat * 1))))]) rfl (by simp only [List.length_set]) ?_
            refine at_xX (by kernel_rfl) ?_
            obtain ⟨h92, H⟩ := ite_some H
            refine at_xseg [16] 1 (#[true, true, true, true, true, true, true, true, true, true, true, true, true, true, true, true, true, false]) rfl (by kernel_rfl) [] [0, 1, 2, 6, 7, 46, 48] (L2 := [(0, .slice A53 (x69.set x74.toNat (rdA [] x69 (IntKind.i64.wrap (x74 - 1)))).length c54), (1, .int .i64 p57), (2, .int .i64 p58), (6, .int .i64 x64), (7, .int .i64 x74), (46, str (rdA [] x69 x74)), (48, .pointer (some ((A53.getD ad0).add ((IntKind.i64.wrap (x74 - 1)).toNat * 1))))]) (obs := [fun _ => A53.isSome = true ∧ 0 ≤ (IntKind.i64.wrap (x74 - 1)) ∧ (IntKind.i64.wrap (x74 - 1)) < (((x69.set x74.toNat (rdA [] x69 (IntKind.i64.wrap (x74 - 1)))).length : Nat) : Int)]) (by kernel_rfl) (by kernel_rfl) (by kernel_rfl) (.inl (by kernel_rfl)) (fun w hS => ⟨ho91.ne (IntKind.i64.wrap (x74 - 1)) h81 h92, h81, h92⟩) (fun w hs => ⟨ho91.ne (IntKind.i64.wrap (x74 - 1)) h81 h92, h81, h92⟩) ?_
            refine at_x1 0 17 (#[true, true, true, true, true, true, true, true, true, true, true, true, true, true, true, true, true, true]) rfl (by kernel_rfl) (by kernel_rfl) rfl rfl ?_
            refine eff_storeOwn (K := Kd.string) (u := rdA [] x69 x74) 0 0 [] (IntKind.i64.wrap (x74 - 1)) rfl rfl rfl rfl ho91 rfl h81 h92 (add0 _).symm rfl (Nat.le_of_ble_eq_true (by kernel_rfl)) rfl (by rintro cs_ rfl; rfl) (fun s93 ho94 => ?_)
            refine at_eqL2 (L1 := [(0, .slice A53 (x69.set x74.toNat (rdA [] x69 (IntKind.i64.wrap (x74 - 1)))).length c54), (1, .int .i64 p57), (2, .int .i64 p58), (6, .int .i64 x64), (7, .int .i64 x74), (46, str (rdA [] x69 x74)), (48, .pointer (some ((A53.getD ad0).add ((IntKind.i64.wrap (x74 - 1)).toNat * 1))))]) (L2 := [(0, .slice A53 ((x69.set x74.toNat (rdA [] x69 (IntKind.i64.wrap (x74 - 1)))).set (IntKind.i64.wrap (x74 - 1)).toNat (rdA [] x69 x74)).length c54), (1, .int .i64 p57), (2, .int .i64 p58), (6, .int .i64 x64), (7, .int .i64 x74), (46, str (rdA [] x69 x74)), (48, .pointer (some ((A53.getD ad0).add ((IntKind.i64.wrap (x74 - 1)).toNat * 1))))]) rfl (by simp only [List.length_set]) ?_
            refine at_xX (by kernel_rfl) ?_
            refine at_xend (by kernel_rfl) ?_
            refine at_in_norm ?_
            refine at_thn ?_
            refine at_reg [] [0, 1, 2, 6, 7] (L2 := [(0, .slice A53 ((x69.set x74.toNat (rdA [] x69 (IntKind.i64.wrap (x74 - 1)))).set (IntKind.i64.wrap (x74 - 1)).toNat (rdA [] x69 x74)).length c54), (1, .int .i64 p57), (2, .int .i64 p58), (6, .int .i64 x64), (7, .int .i64 (IntKind.i64.wrap (x74 - 1)))]) (obs := []) (by kernel_rfl) ?_ ?_
            · intro w hs; exact trivial
            refine at_thn ?_
            refine at_keep [0, 1, 2, 6, 7] (L2 := [(0, .slice A53 ((x69.set x74.toNat (rdA [] x69 (IntKind.i64.wrap (x74 - 1)))).set (IntKind.i64.wrap (x74 - 1)).toNat (rdA [] x69 x74)).length c54), (1, .int .i64 p57), (2, .int .i64 p58), (6, .int .i64 x64), (7, .int .i64 (IntKind.i64.wrap (x74 - 1)))]) rfl ?_
            exact ih76 _ (by omega) _ _ _ ⟨(x69.set x74.toNat (rdA [] x69 (IntKind.i64.wrap (x74 - 1)))).set (IntKind.i64.wrap (x74 - 1)).toNat (rdA [] x69 x74), s93, IntKind.i64.wrap (x74 - 1), rfl, rfl, H, hle, by omega, ho94⟩
          · rw [if_neg h89] at H
            refine at_cond_f rfl (ff_of h89) ?_
            refine at_exit ?_
            refine at_then_exit ?_
            refine at_then_exit ?_
            refine at_in_hit ?_
            refine at_in_norm ?_
            refine at_thn ?_
            refine at_reg [] [0, 1, 2, 6] (L2 := [(0, .slice A53 x69.length c54), (1, .int .i64 p57), (2, .int .i64 p58), (6, .int .i64 (IntKind.i64.wrap (x64 + 1)))]) (obs := []) (by kernel_rfl) ?_ ?_
            · intro w hs; exact trivial
            refine at_thn ?_
            refine at_keep [0, 1, 2, 6] (L2 := [(0, .slice A53 x69.length c54), (1, .int .i64 p57), (2, .int .i64 p58), (6, .int .i64 (IntKind.i64.wrap (x64 + 1)))]) rfl ?_
            exact ih66 _ (by omega) _ _ _ ⟨x69, s72, IntKind.i64.wrap (x64 + 1), rfl, rfl, H, hle, by omega, ho73⟩
        · rw [if_neg h78] at H
          refine at_x hmo (fun w => True) [] ?_
          refine at_xseg [0, 1, 2, 3, 4, 5, 6, 7, 8, 9, 10, 11, 12] 2 (#[true, true, true, true, true, true, true, true, true, true, true, true, true, false, false]) rfl (by kernel_rfl) [(3, .bool false)] [0, 1, 2, 6, 7, 19, 23, 28] (L2 := [(0, .slice A53 x69.length c54), (1, .int .i64 p57), (2, .int .i64 p58), (6, .int .i64 x64), (7, .int .i64 x74), (19, .bool false), (23, undef), (28, undef)]) (obs := [fun _ => (.bool (decide (x74 > p57)) : Value) = .bool false]) (by kernel_rfl) (by kernel_rfl) (by kernel_rfl) (.inr fun w hs => trivial) (fun w hS => congrArg Value.bool (decide_eq_false h78)) (fun w hs => congrArg Value.bool (decide_eq_false h78)) ?_
          refine at_xseg [13, 14] 0 (#[true, true, true, true, true, true, true, true, true, true, true, true, true, true, true]) rfl (by kernel_rfl) [] [0, 1, 2, 6, 7, 30] (L2 := [(0, .slice A53 x69.length c54), (1, .int .i64 p57), (2, .int .i64 p58), (6, .int .i64 x64), (7, .int .i64 x74), (30, .bool false)]) (obs := []) (by kernel_rfl) (by kernel_rfl) (by kernel_rfl) (.inr fun w hs => trivial) (fun w hS => trivial) (fun w hs => trivial) ?_
          refine at_xend (by kernel_rfl) ?_
          refine at_thn ?_
          refine at_cond_f rfl (rfl) ?_
          refine at_exit ?_
          refine at_then_exit ?_
          refine at_then_exit ?_
          refine at_in_hit ?_
          refine at_in_norm ?_
          refine at_thn ?_
          refine at_reg [] [0, 1, 2, 6] (L2 := [(0, .slice A53 x69.length c54), (1, .int .i64 p57), (2, .int .i64 p58), (6, .int .i64 (IntKind.i64.wrap (x64 + 1)))]) (obs := []) (by kernel_rfl) ?_ ?_
          · intro w hs; exact trivial
          refine at_thn ?_
          refine at_keep [0, 1, 2, 6] (L2 := [(0, .slice A53 x69.length c54), (1, .int .i64 p57), (2, .int .i64 p58), (6, .int .i64 (IntKind.i64.wrap (x64 + 1)))]) rfl ?_
          exact ih66 _ (by omega) _ _ _ ⟨x69, s72, IntKind.i64.wrap (x64 + 1), rfl, rfl, H, hle, by omega, ho73⟩
    · rw [if_neg h68] at H
      refine at_cond_f rfl (decide_eq_false h68) ?_
      refine at_exit ?_
      refine at_then_exit ?_
      refine at_then_exit ?_
      refine at_in_hit ?_
      obtain ⟨h95, H⟩ := ite_some H
      obtain rfl := Option.some.inj H
      refine at_done (vs := []) (obs := []) (.inr rfl) [] [] rfl (by kernel_rfl) (fun w hs => trivial) (fun w hs => ⟨_, _, [s62], rfl, ⟨s62, rfl, rfl, ho63, h95⟩, hle, hs⟩)

/-! ### slices.siftDownOrdered[string]: function 29 -/
mutual
def slices_siftDownOrdered_string_l0 : Nat → (List (List UInt8)) → Int → (List (List UInt8)) → Int → Int → Option (List (List UInt8))
  | 0, _, _, _, _, _ => none
  | k + 1, x86, x91, p78, p84, p85 => if (IntKind.i64.wrap ((IntKind.i64.wrap (2 * x91)) + 1)) ≥ p84 then (if x86.length = p78.length then (some x86) else none) else (if (IntKind.i64.wrap ((IntKind.i64.wrap ((IntKind.i64.wrap (2 * x91)) + 1)) + 1)) < p84 then (if 0 ≤ (IntKind.i64.wrap (p85 + (IntKind.i64.wrap ((IntKind.i64.wrap (2 * x91)) + 1)))) then (if (IntKind.i64.wrap (p85 + (IntKind.i64.wrap ((IntKind.i64.wrap (2 * x91)) + 1)))) < (x86.length : Int) then (if 0 ≤ (IntKind.i64.wrap ((IntKind.i64.wrap (p85 + (IntKind.i64.wrap ((IntKind.i64.wrap (2 * x91)) + 1)))) + 1)) then (if (IntKind.i64.wrap ((IntKind.i64.wrap (p85 + (IntKind.i64.wrap ((IntKind.i64.wrap (2 * x91)) + 1)))) + 1)) < (x86.length : Int) then ((cmp_Less_string (rdA [] x86 (IntKind.i64.wrap (p85 + (IntKind.i64.wrap ((IntKind.i64.wrap (2 * x91)) + 1))))) (rdA [] x86 (IntKind.i64.wrap ((IntKind.i64.wrap (p85 + (IntKind.i64.wrap ((IntKind.i64.wrap (2 * x91)) + 1)))) + 1)))).bind fun b6 => (if b6 = true then (slices_siftDownOrdered_string_j0 k (IntKind.i64.wrap ((IntKind.i64.wrap ((IntKind.i64.wrap (2 * x91)) + 1)) + 1)) p78 p84 p85 x86 x91) else (slices_siftDownOrdered_string_j0 k (IntKind.i64.wrap ((IntKind.i64.wrap (2 * x91)) + 1)) p78 p84 p85 x86 x91))) else none) else none) else none) else none) else (slices_siftDownOrdered_string_j0 k (IntKind.i64.wrap ((IntKind.i64.wrap (2 * x91)) + 1)) p78 p84 p85 x86 x91))
def slices_siftDownOrdered_string_j0 : Nat → Int → (List (List UInt8)) → Int → Int → (List (List UInt8)) → Int → Option (List (List UInt8))
  | 0, _, _, _, _, _, _ => none
  | k + 1, x198, p78, p84, p85, x86, x91 => if 0 ≤ (IntKind.i64.wrap (p85 + x91)) then (if (IntKind.i64.wrap (p85 + x91)) < (x86.length : Int) then (if 0 ≤ (IntKind.i64.wrap (p85 + x198)) then (if (IntKind.i64.wrap (p85 + x198)) < (x86.length : Int) then ((cmp_Less_string (rdA [] x86 (IntKind.i64.wrap (p85 + x91))) (rdA [] x86 (IntKind.i64.wrap (p85 + x198)))).bind fun b5 => (if b5 = true then (if (IntKind.i64.wrap (p85 + x198)) < ((x86.set (IntKind.i64.wrap (p85 + x91)).toNat (rdA [] x86 (IntKind.i64.wrap (p85 + x198)))).length : Int) then (slices_siftDownOrdered_string_l0 k ((x86.set (IntKind.i64.wrap (p85 + x91)).toNat (rdA [] x86 (IntKind.i64.wrap (p85 + x198)))).set (IntKind.i64.wrap (p85 + x198)).toNat (rdA [] x86 (IntKind.i64.wrap (p85 + x91)))) x198 p78 p84 p85) else none) else (if x86.length = p78.length then (some x86) else none))) else none) else none) else none) else none
end
def slices_siftDownOrdered_string (k : Nat) (p78 : List (List UInt8)) (p83 : Int) (p84 : Int) (p85 : Int) : Option (List (List UInt8)) := slices_siftDownOrdered_string_l0 k p78 p83 p78 p84 p85
set_option maxHeartbeats 4000000 in
set_option maxRecDepth 100000 in
theorem slices_siftDownOrdered_string.calls {k : Nat} {p78 : List (List UInt8)} {p83 : Int} {p84 : Int} {p85 : Int} {r : (List (List UInt8))} {I0 : Imm} {A79 : Option Addr} {c80 : Nat} {s81 : Seg} (H : slices_siftDownOrdered_string k p78 p83 p84 p85 = some r) (ho82 : Own Kd.string 9 I0 A79 c80 p78 s81) :
    Meets Try.prog 29 ([.slice A79 p78.length c80, .int .i64 p83, .int .i64 p84, .int .i64 p85] : List Value).toArray I0 [s81] (fun v J M => ∃ (s_1 : Seg), v = .tuple #[] ∧ M = [s_1] ∧ Own Kd.string 9 J A79 c80 r s_1 ∧ r.length = p78.length) := by
  have hle := ImmLe.refl I0
  unfold slices_siftDownOrdered_string at H
  refine fn_intro (fn := Try.f29) 76 Try.func29 rfl rfl rfl (fun E Fs => ?_)
  refine at_seq ?_
  refine at_reg [] [0, 2, 3, 8] (L2 := [(0, .slice A79 p78.length c80), (2, .int .i64 p84), (3, .int .i64 p85), (8, .int .i64 p83)]) (obs := []) (by kernel_rfl) ?_ ?_
  · intro w hs; exact trivial
  refine at_thn ?_
  refine at_block ?_
  refine at_keep [0, 2, 3, 8] (L2 := [(0, .slice A79 p78.length c80), (2, .int .i64 p84), (3, .int .i64 p85), (8, .int .i64 p83)]) rfl ?_
  refine at_loop (fun k92 L I Ms => ∃ (x86 : List (List UInt8)) (s89 : Seg) (x91 : Int), L = [(0, .slice A79 x86.length c80), (2, .int .i64 p84), (3, .int .i64 p85), (8, .int .i64 x91)] ∧ Ms = (s89 :: Fs) ∧ slices_siftDownOrdered_string_l0 k92 x86 x91 p78 p84 p85 = some r ∧ ImmLe I0 I ∧ k92 ≤ k ∧ Own Kd.string 9 I A79 c80 x86 s89) ?_ ?_ k ⟨p78, s81, p83, rfl, rfl, H, hle, Nat.le_refl _, ho82⟩
  · rintro L I Ms ⟨_, _, _, rfl, rfl, H, _⟩; exact no_none H
  · clear H hle ho82
    intro k92 ih93 L I Ms h_; obtain ⟨x86, s89, x91, hL_, hM_, H, hle, hk94, ho90⟩ := h_; rw [hL_, hM_]; clear hL_ hM_ L Ms
    rw [slices_siftDownOrdered_string_l0] at H
    refine at_block ?_
    refine at_seq ?_
    refine at_reg [] [0, 2, 3, 8, 9] (L2 := [(0, .slice A79 x86.length c80), (2, .int .i64 p84), (3, .int .i64 p85), (8, .int .i64 x91), (9, .int .i64 (IntKind.i64.wrap ((IntKind.i64.wrap (2 * x91)) + 1)))]) (obs := []) (by kernel_rfl) ?_ ?_
    · intro w hs; exact trivial
    refine at_thn ?_
    refine at_seq ?_
    refine at_seq ?_
    refine at_reg [] [0, 2, 3, 8, 9, 16] (L2 := [(0, .slice A79 x86.length c80), (2, .int .i64 p84), (3, .int .i64 p85), (8, .int .i64 x91), (9, .int .i64 (IntKind.i64.wrap ((IntKind.i64.wrap (2 * x91)) + 1))), (16, .bool (decide ((IntKind.i64.wrap ((IntKind.i64.wrap (2 * x91)) + 1)) ≥ p84)))]) (obs := []) (by kernel_rfl) ?_ ?_
    · intro w hs; exact trivial
    refine at_thn ?_
    by_cases h95 : (IntKind.i64.wrap ((IntKind.i64.wrap (2 * x91)) + 1)) ≥ p84
    · rw [if_pos h95] at H
      refine at_cond_t rfl (decide_eq_true h95) ?_
      refine at_exit ?_
      refine at_then_exit ?_
      refine at_in_miss (by decide) ?_
      refine at_then_exit ?_
      refine at_in_hit ?_
      obtain ⟨h96, H⟩ := ite_some H
      obtain rfl := Option.some.inj H
      refine at_done (vs := []) (obs := []) (.inr rfl) [] [] rfl (by kernel_rfl) (fun w hs => trivial) (fun w hs => ⟨_, _, [s89], rfl, ⟨s89, rfl, rfl, ho90, h96⟩, hle, hs⟩)
    · rw [if_neg h95] at H
      refine at_cond_f rfl (decide_eq_false h95) ?_
      refine at_skip ?_
      refine at_thn ?_
      refine at_join (fun L I Ms => ∃ (k199 : Nat), ∃ (x198 : Int), L = [(0, .slice A79 x86.length c80), (2, .int .i64 p84), (3, .int .i64 p85), (8, .int .i64 x91), (9, .int .i64 x198)] ∧ Ms = (s89 :: Fs) ∧ slices_siftDownOrdered_string_j0 k199 x198 p78 p84 p85 x86 x91 = some r ∧ ImmLe I0 I ∧ k199 ≤ k92 ∧ Own Kd.string 9 I A79 c80 x86 s89) ?_ ?_
      · clear H hle ho90
        intro L I Ms h_; obtain ⟨k199, x198, hL_, hM_, H, hle, hk200, ho90⟩ := h_; rw [hL_, hM_]; clear hL_ hM_ L Ms
        rcases k199 with _ | k199
        · exact (no_none H).elim
        rw [slices_siftDownOrdered_string_j0] at H
        refine at_seq ?_
        refine at_seq ?_
        obtain ⟨h201, H⟩ := ite_some H
        obtain ⟨h202, H⟩ := ite_some H
        obtain ⟨h203, H⟩ := ite_some H
        obtain ⟨h204, H⟩ := ite_some H
        refine at_x hmo (fun w => w.cell? ((A79.getD ad0).add ((IntKind.i64.wrap (p85 + x91)).toNat * 1)) = some (str (rdA [] x86 (IntKind.i64.wrap (p85 + x91)))) ∧ w.cell? ((A79.getD ad0).add ((IntKind.i64.wrap (p85 + x198)).toNat * 1)) = some (str (rdA [] x86 (IntKind.i64.wrap (p85 + x198))))) [] ?_
        refine at_xseg [0, 1, 2, 3, 4, 5, 6, 7, 8, 9, 10, 11] 2 (#[true, true, true, true, true, true, true, true, true, true, true, true, false, false]) rfl (by kernel_rfl) [(5, str (rdA [] x86 (IntKind.i64.wrap (p85 + x91)))), (11, str (rdA [] x86 (IntKind.i64.wrap (p85 + x198))))] [0, 2, 3, 8, 9, 44, 50] (L2 := [(0, .slice A79 x86.length c80), (2, .int .i64 p84), (3, .int .i64 p85), (8, .int .i64 x91), (9, .int .i64 x198), (44, str (rdA [] x86 (IntKind.i64.wrap (p85 + x91)))), (50, str (rdA [] x86 (IntKind.i64.wrap (p85 + x198))))]) (obs := [fun _ => A79.isSome = true ∧ 0 ≤ (IntKind.i64.wrap (p85 + x91)) ∧ (IntKind.i64.wrap (p85 + x91)) < ((x86.length : Nat) : Int), fun w => w.cell? ((A79.getD ad0).add ((IntKind.i64.wrap (p85 + x91)).toNat * 1)) = some (str (rdA [] x86 (IntKind.i64.wrap (p85 + x91)))), fun _ => A79.isSome = true ∧ 0 ≤ (IntKind.i64.wrap (p85 + x198)) ∧ (IntKind.i64.wrap (p85 + x198)) < ((x86.length : Nat) : Int), fun w => w.cell? ((A79.getD ad0).add ((IntKind.i64.wrap (p85 + x198)).toNat * 1)) = some (str (rdA [] x86 (IntKind.i64.wrap (p85 + x198))))]) (by kernel_rfl) (by kernel_rfl) (by kernel_rfl) (.inr fun w hs => ⟨ho90.one [] (IntKind.i64.wrap (p85 + x91)) h201 h202 hs (k := 0) rfl, ho90.one [] (IntKind.i64.wrap (p85 + x198)) h203 h204 hs (k := 0) rfl⟩) (fun w hS => ⟨⟨ho90.ne (IntKind.i64.wrap (p85 + x91)) h201 h202, h201, h202⟩, hS.1, ⟨ho90.ne (IntKind.i64.wrap (p85 + x198)) h203 h204, h203, h204⟩, hS.2⟩) (fun w hs => ⟨⟨ho90.ne (IntKind.i64.wrap (p85 + x91)) h201 h202, h201, h202⟩, ho90.one [] (IntKind.i64.wrap (p85 + x91)) h201 h202 hs (k := 0) rfl, ⟨ho90.ne (IntKind.i64.wrap (p85 + x198)) h203 h204, h203, h204⟩, ho90.one [] (IntKind.i64.wrap (p85 + x198)) h203 h204 hs (k := 0) rfl⟩) ?_
        refine at_x1 1 12 (#[true, true, true, true, true, true, true, true, true, true, true, true, true, false]) rfl (by kernel_rfl) (by kernel_rfl) rfl rfl ?_
        obtain ⟨b5, H205, H⟩ := bind_some H
        have hm_ := cmp_Less_string.calls (I0 := I) H205
        refine eff_call rfl rfl ok24 rfl rfl (show Meets Try.prog 24 ([str (rdA [] x86 (IntKind.i64.wrap (p85 + x91))), str (rdA [] x86 (IntKind.i64.wrap (p85 + x198)))] : List Value).toArray _ [] _ from hm_) (Mr := (s89 :: Fs)) (List.Perm.refl _) (fun v206 J207 M208 hq209 hJ210 => ?_)
        replace hle := hle.trans hJ210
        replace ho90 := ho90.mono hJ210
        obtain ⟨rfl, rfl⟩ := hq209
        refine at_xS (fun w hs => ⟨ho90.one [] (IntKind.i64.wrap (p85 + x91)) h201 h202 hs (k := 0) rfl, ho90.one [] (IntKind.i64.wrap (p85 + x198)) h203 h204 hs (k := 0) rfl⟩) ?_
        refine at_xseg [13] 0 (#[true, true, true, true, true, true, true, true, true, true, true, true, true, true]) rfl (by kernel_rfl) [] [0, 2, 3, 8, 9, 52] (L2 := [(0, .slice A79 x86.length c80), (2, .int .i64 p84), (3, .int .i64 p85), (8, .int .i64 x91), (9, .int .i64 x198), (52, .bool (!b5))]) (obs := []) (by kernel_rfl) (by kernel_rfl) (by kernel_rfl) (.inr fun w hs => ⟨ho90.one [] (IntKind.i64.wrap (p85 + x91)) h201 h202 hs (k := 0) rfl, ho90.one [] (IntKind.i64.wrap (p85 + x198)) h203 h204 hs (k := 0) rfl⟩) (fun w hS => trivial) (fun w hs => trivial) ?_
        refine at_xend (by kernel_rfl) ?_
        refine at_thn ?_
        by_cases h211 : b5 = true
        · rw [if_pos h211] at H
          refine at_cond_f rfl (not_ff (h211)) ?_
          refine at_skip ?_
          refine at_thn ?_
          refine at_seq ?_
          refine at_x hmo (fun w => w.cell? ((A79.getD ad0).add ((IntKind.i64.wrap (p85 + x198)).toNat * 1)) = some (str (rdA [] x86 (IntKind.i64.wrap (p85 + x198)))) ∧ w.cell? ((A79.getD ad0).add ((IntKind.i64.wrap (p85 + x91)).toNat * 1)) = some (str (rdA [] x86 (IntKind.i64.wrap (p85 + x91))))) [21, 23] ?_
          refine at_xseg [0, 1, 2, 3, 4, 5, 6, 7, 8, 9, 10, 11, 12, 13, 14, 15, 16, 17, 18, 19, 20] 3 (#[true, true, true, true, true, true, true, true, true, true, true, true, true, true, true, true, true, true, true, true, true, false, false, false]) rfl (by kernel_rfl) [(13, str (rdA [] x86 (IntKind.i64.wrap (p85 + x198)))), (19, str (rdA [] x86 (IntKind.i64.wrap (p85 + x91))))] [0, 2, 3, 9, 57, 60, 66, 72, 73] (L2 := [(0, .slice A79 x86.length c80), (2, .int .i64 p84), (3, .int .i64 p85), (9, .int .i64 x198), (57, .slice A79 x86.length c80), (60, .int .i64 (IntKind.i64.wrap (p85 + x198))), (66, str (rdA [] x86 (IntKind.i64.wrap (p85 + x198)))), (72, str (rdA [] x86 (IntKind.i64.wrap (p85 + x91)))), (73, .pointer (some ((A79.getD ad0).add ((IntKind.i64.wrap (p85 + x91)).toNat * 1))))]) (obs := [fun _ => A79.isSome = true ∧ 0 ≤ (IntKind.i64.wrap (p85 + x198)) ∧ (IntKind.i64.wrap (p85 + x198)) < ((x86.length : Nat) : Int), fun w => w.cell? ((A79.getD ad0).add ((IntKind.i64.wrap (p85 + x198)).toNat * 1)) = some (str (rdA [] x86 (IntKind.i64.wrap (p85 + x198)))), fun _ => A79.isSome = true ∧ 0 ≤ (IntKind.i64.wrap (p85 + x91)) ∧ (IntKind.i64.wrap (p85 + x91)) < ((x86.length : Nat) : Int), fun w => w.cell? ((A79.getD ad0).add ((IntKind.i64.wrap (p85 + x91)).toNat * 1)) = some (str (rdA [] x86 (IntKind.i64.wrap (p85 + x91)))), fun _ => A79.isSome = true ∧ 0 ≤ (IntKind.i64.wrap (p85 + x91)) ∧ (IntKind.i64.wrap (p85 + x91)) < ((x86.length : Nat) : Int)]) (by kernel_rfl) (by kernel_rfl) (by kernel_rfl) (.inr fun w hs => ⟨ho90.one [] (IntKind.i64.wrap (p85 + x198)) h203 h204 hs (k := 0) rfl, ho90.one [] (IntKind.i64.wrap (p85 + x91)) h201 h202 hs (k := 0) rfl⟩) (fun w hS => ⟨⟨ho90.ne (IntKind.i64.wrap (p85 + x198)) h203 h204, h203, h204⟩, hS.1, ⟨ho90.ne (IntKind.i64.wrap (p85 + x91)) h201 h202, h201, h202⟩, hS.2, ⟨ho90.ne (IntKind.i64.wrap (p85 + x91)) h201 h202, h201, h202⟩⟩) (fun w hs => ⟨⟨ho90.ne (IntKind.i64.wrap (p85 + x198)) h203 h204, h203, h204⟩, ho90.one [] (IntKind.i64.wrap (p85 + x198)) h203 h204 hs (k := 0) rfl, ⟨ho90.ne (IntKind.i64.wrap (p85 + x91)) h201 h202, h201, h202⟩, ho90.one [] (IntKind.i64.wrap (p85 + x91)) h201 h202 hs (k := 0) rfl, ⟨ho90.ne (IntKind.i64.wrap (p85 + x91)) h201 h202, h201, h202⟩⟩) ?_
          refine at_x1 2 21 (#[true, true, true, true, true, true, true, true, true, true, true, true, true, true, true, true, true, true, true, true, true, true, false, false]) rfl (by kernel_rfl) (by kernel_rfl) rfl rfl ?_
          refine eff_storeOwn (K := Kd.string) (u := rdA [] x86 (IntKind.i64.wrap (p85 + x198))) 0 0 [] (IntKind.i64.wrap (p85 + x91)) rfl rfl rfl rfl ho90 rfl h201 h202 (add0 _).symm rfl (Nat.le_of_ble_eq_true (by kernel_rfl)) rfl (by rintro cs_ rfl; rfl) (fun s212 ho213 => ?_)
          refine at_eqL2 (L1 := [(0, .slice A79 x86.length c80), (2, .int .i64 p84), (3, .int .i64 p85), (9, .int .i64 x198), (57, .slice A79 x86.length c80), (60, .int .i64 (IntKind.i64.wrap (p85 + x198))), (66, str (rdA [] x86 (IntKind.i64.wrap (p85 + x198)))), (72, str (rdA [] x86 (IntKind.i64.wrap (p85 + x91)))), (73, .pointer (some ((A79.getD ad0).add ((IntKind.i64.wrap (p85 + x91)).toNat * 1))))]) (L2 := [(0, .slice A79 (x86.set (IntKind.i64.wrap (p85 + x91)).toNat (rdA [] x86 (IntKind.i64.wrap (p85 + x198)))).length c80), (2, .int .i64 p84), (3, .int .i64 p85), (9, .int .i64 x198), (57, .slice A79 (x86.set (IntKind.i64.wrap (p85 + x91)).toNat (rdA [] x86 (IntKind.i64.wrap (p85 + x198)))).length c80), (60, .int .i64 (IntKind.i64.wrap (p85 + x198))), (66, str (rdA [] x86 (IntKind.i64.wrap (p85 + x198)))), (72, str (rdA [] x86 (IntKind.i64.wrap (p85 + x91)))), (73, .pointer (some ((A79.getD ad0).add ((IntKind.i64.wrap (p85 + x91)).toNat * 1))))]) rfl (by simp only [List.length_set]) ?_
          refine at_xX (by kernel_rfl) ?_
          obtain ⟨h214, H⟩ := ite_some H
          refine at_xseg [22] 1 (#[true, true, true, true, true, true, true, true, true, true, true, true, true, true, true, true, true, true, true, true, true, true, true, false]) rfl (by kernel_rfl) [] [0, 2, 3, 9, 72, 74] (L2 := [(0, .slice A79 (x86.set (IntKind.i64.wrap (p85 + x91)).toNat (rdA [] x86 (IntKind.i64.wrap (p85 + x198)))).length c80), (2, .int .i64 p84), (3, .int .i64 p85), (9, .int .i64 x198), (72, str (rdA [] x86 (IntKind.i64.wrap (p85 + x91)))), (74, .pointer (some ((A79.getD ad0).add ((IntKind.i64.wrap (p85 + x198)).toNat * 1))))]) (obs := [fun _ => A79.isSome = true ∧ 0 ≤ (IntKind.i64.wrap (p85 + x198)) ∧ (IntKind.i64.wrap (p85 + x198)) < (((x86.set (IntKind.i64.wrap (p85 + x91)).toNat (rdA [] x86 (IntKind.i64.wrap (p85 + x198)))).length : Nat) : Int)]) (by kernel_rfl) (by kernel_rfl) (by kernel_rfl) (.inl (by kernel_rfl)) (fun w hS => ⟨ho213.ne (IntKind.i64.wrap (p85 + x198)) h203 h214, h203, h214⟩) (fun w hs => ⟨ho213.ne (IntKind.i64.wrap (p85 + x198)) h203 h214, h203, h214⟩) ?_
          refine at_x1 0 23 (#[true, true, true, true, true, true, true, true, true, true, true, true, true, true, true, true, true, true, true, true, true, true, true, true]) rfl (by kernel_rfl) (by kernel_rfl) rfl rfl ?_
          refine eff_storeOwn (K := Kd.string) (u := rdA [] x86 (IntKind.i64.wrap (p85 + x91))) 0 0 [] (IntKind.i64.wrap (p85 + x198)) rfl rfl rfl rfl ho213 rfl h203 h214 (add0 _).symm rfl (Nat.le_of_ble_eq_true (by kernel_rfl)) rfl (by rintro cs_ rfl; rfl) (fun s215 ho216 => ?_)
          refine at_eqL2 (L1 := [(0, .slice A79 (x86.set (IntKind.i64.wrap (p85 + x91)).toNat (rdA [] x86 (IntKind.i64.wrap (p85 + x198)))).length c80), (2, .int .i64 p84), (3, .int .i64 p85), (9, .int .i64 x198), (72, str (rdA [] x86 (IntKind.i64.wrap (p85 + x91)))), (74, .pointer (some ((A79.getD ad0).add ((IntKind.i64.wrap (p85 + x198)).toNat * 1))))]) (L2 := [(0, .slice A79 ((x86.set (IntKind.i64.wrap (p85 + x91)).toNat (rdA [] x86 (IntKind.i64.wrap (p85 + x198)))).set (IntKind.i64.wrap (p85 + x198)).toNat (rdA [] x86 (IntKind.i64.wrap (p85 + x91)))).length c80), (2, .int .i64 p84), (3, .int .i64 p85), (9, .int .i64 x198), (72, str (rdA [] x86 (IntKind.i64.wrap (p85 + x91)))), (74, .pointer (some ((A79.getD ad0).add ((IntKind.i64.wrap (p85 + x198)).toNat * 1))))]) rfl (by simp only [List.length_set]) ?_
          refine at_xX (by kernel_rfl) ?_
          refine at_xend (by kernel_rfl) ?_
          refine at_thn ?_
          refine at_reg [] [0, 2, 3, 8] (L2 := [(0, .slice A79 ((x86.set (IntKind.i64.wrap (p85 + x91)).toNat (rdA [] x86 (IntKind.i64.wrap (p85 + x198)))).set (IntKind.i64.wrap (p85 + x198)).toNat (rdA [] x86 (IntKind.i64.wrap (p85 + x91)))).length c80), (2, .int .i64 p84), (3, .int .i64 p85), (8, .int .i64 x198)]) (obs := []) (by kernel_rfl) ?_ ?_
          · intro w hs; exact trivial
          refine at_in_norm ?_
          refine at_thn ?_
          refine at_keep [0, 2, 3, 8] (L2 := [(0, .slice A79 ((x86.set (IntKind.i64.wrap (p85 + x91)).toNat (rdA [] x86 (IntKind.i64.wrap (p85 + x198)))).set (IntKind.i64.wrap (p85 + x198)).toNat (rdA [] x86 (IntKind.i64.wrap (p85 + x91)))).length c80), (2, .int .i64 p84), (3, .int .i64 p85), (8, .int .i64 x198)]) rfl ?_
          exact ih93 _ (by omega) _ _ _ ⟨(x86.set (IntKind.i64.wrap (p85 + x91)).toNat (rdA [] x86 (IntKind.i64.wrap (p85 + x198)))).set (IntKind.i64.wrap (p85 + x198)).toNat (rdA [] x86 (IntKind.i64.wrap (p85 + x91))), s215, x198, rfl, rfl, H, hle, by omega, ho216⟩
        · rw [if_neg h211] at H
          refine at_cond_t rfl (not_tt (ff_of h211)) ?_
          refine at_ret ?_
          refine at_then_ret ?_
          refine at_in_ret ?_
          refine at_then_ret ?_
          refine at_in_ret ?_
          obtain ⟨h217, H⟩ := ite_some H
          obtain rfl := Option.some.inj H
          refine at_done (vs := []) (obs := []) (.inl rfl) [] [] rfl (by kernel_rfl) (fun w hs => trivial) (fun w hs => ⟨_, _, [s89], rfl, ⟨s89, rfl, rfl, ho90, h217⟩, hle, hs⟩)
      · intro Jn97
        refine at_seq ?_
        by_cases h218 : (IntKind.i64.wrap ((IntKind.i64.wrap ((IntKind.i64.wrap (2 * x91)) + 1)) + 1)) < p84
        · rw [if_pos h218] at H
          obtain ⟨h219, H⟩ := ite_some H
          obtain ⟨h220, H⟩ := ite_some H
          obtain ⟨h221, H⟩ := ite_some H
          obtain ⟨h222, H⟩ := ite_some H
          refine at_x hmo (fun w => w.cell? ((A79.getD ad0).add ((IntKind.i64.wrap (p85 + (IntKind.i64.wrap ((IntKind.i64.wrap (2 * x91)) + 1)))).toNat * 1)) = some (str (rdA [] x86 (IntKind.i64.wrap (p85 + (IntKind.i64.wrap ((IntKind.i64.wrap (2 * x91)) + 1)))))) ∧ w.cell? ((A79.getD ad0).add ((IntKind.i64.wrap ((IntKind.i64.wrap (p85 + (IntKind.i64.wrap ((IntKind.i64.wrap (2 * x91)) + 1)))) + 1)).toNat * 1)) = some (str (rdA [] x86 (IntKind.i64.wrap ((IntKind.i64.wrap (p85 + (IntKind.i64.wrap ((IntKind.i64.wrap (2 * x91)) + 1)))) + 1))))) [] ?_
          refine at_xseg [0, 1, 2, 3, 4, 5, 6, 7, 8, 9, 10, 11, 12, 13, 14, 15, 16, 17] 2 (#[true, true, true, true, true, true, true, true, true, true, true, true, true, true, true, true, true, true, false, false]) rfl (by kernel_rfl) [(4, .bool true), (10, str (rdA [] x86 (IntKind.i64.wrap (p85 + (IntKind.i64.wrap ((IntKind.i64.wrap (2 * x91)) + 1)))))), (17, str (rdA [] x86 (IntKind.i64.wrap ((IntKind.i64.wrap (p85 + (IntKind.i64.wrap ((IntKind.i64.wrap (2 * x91)) + 1)))) + 1))))] [0, 2, 3, 8, 9, 21, 27, 34] (L2 := [(0, .slice A79 x86.length c80), (2, .int .i64 p84), (3, .int .i64 p85), (8, .int .i64 x91), (9, .int .i64 (IntKind.i64.wrap ((IntKind.i64.wrap (2 * x91)) + 1))), (21, .bool true), (27, str (rdA [] x86 (IntKind.i64.wrap (p85 + (IntKind.i64.wrap ((IntKind.i64.wrap (2 * x91)) + 1)))))), (34, str (rdA [] x86 (IntKind.i64.wrap ((IntKind.i64.wrap (p85 + (IntKind.i64.wrap ((IntKind.i64.wrap (2 * x91)) + 1)))) + 1))))]) (obs := [fun _ => (.bool (decide ((IntKind.i64.wrap ((IntKind.i64.wrap ((IntKind.i64.wrap (2 * x91)) + 1)) + 1)) < p84)) : Value) = .bool true, fun _ => A79.isSome = true ∧ 0 ≤ (IntKind.i64.wrap (p85 + (IntKind.i64.wrap ((IntKind.i64.wrap (2 * x91)) + 1)))) ∧ (IntKind.i64.wrap (p85 + (IntKind.i64.wrap ((IntKind.i64.wrap (2 * x91)) + 1)))) < ((x86.length : Nat) : Int), fun w => w.cell? ((A79.getD ad0).add ((IntKind.i64.wrap (p85 + (IntKind.i64.wrap ((IntKind.i64.wrap (2 * x91)) + 1)))).toNat * 1)) = some (str (rdA [] x86 (IntKind.i64.wrap (p85 + (IntKind.i64.wrap ((IntKind.i64.wrap (2 * x91)) + 1)))))), fun _ => A79.isSome = true ∧ 0 ≤ (IntKind.i64.wrap ((IntKind.i64.wrap (p85 + (IntKind.i64.wrap ((IntKind.i64.wrap (2 * x91)) + 1)))) + 1)) ∧ (IntKind.i64.wrap ((IntKind.i64.wrap (p85 + (IntKind.i64.wrap ((IntKind.i64.wrap (2 * x91)) + 1)))) + 1)) < ((x86.length : Nat) : Int), fun w => w.cell? ((A79.getD ad0).add ((IntKind.i64.wrap ((IntKind.i64.wrap (p85 + (IntKind.i64.wrap ((IntKind.i64.wrap (2 * x91)) + 1)))) + 1)).toNat * 1)) = some (str (rdA [] x86 (IntKind.i64.wrap ((IntKind.i64.wrap (p85 + (IntKind.i64.wrap ((IntKind.i64.wrap (2 * x91)) + 1)))) + 1))))]) (by kernel_rfl) (by kernel_rfl) (by kernel_rfl) (.inr fun w hs => ⟨ho90.one [] (IntKind.i64.wrap (p85 + (IntKind.i64.wrap ((IntKind.i64.wrap (2 * x91)) + 1)))) h219 h220 hs (k := 0) rfl, ho90.one [] (IntKind.i64.wrap ((IntKind.i64.wrap (p85 + (IntKind.i64.wrap ((IntKind.i64.wrap (2 * x91)) + 1)))) + 1)) h221 h222 hs (k := 0) rfl⟩) (fun w hS => ⟨congrArg Value.bool (decide_eq_true h218), ⟨ho90.ne (IntKind.i64.wrap (p85 + (IntKind.i64.wrap ((IntKind.i64.wrap (2 * x91)) + 1)))) h219 h220, h219, h220⟩, hS.1, ⟨ho90.ne (IntKind.i64.wrap ((IntKind.i64.wrap (p85 + (IntKind.i64.wrap ((IntKind.i64.wrap (2 * x91)) + 1)))) + 1)) h221 h222, h221, h222⟩, hS.2⟩) (fun w hs => ⟨congrArg Value.bool (decide_eq_true h218), ⟨ho90.ne (IntKind.i64.wrap (p85 + (IntKind.i64.wrap ((IntKind.i64.wrap (2 * x91)) + 1)))) h219 h220, h219, h220⟩, ho90.one [] (IntKind.i64.wrap (p85 + (IntKind.i64.wrap ((IntKind.i64.wrap (2 * x91)) + 1)))) h219 h220 hs (k := 0) rfl, ⟨ho90.ne (IntKind.i64.wrap ((IntKind.i64.wrap (p85 + (IntKind.i64.wrap ((IntKind.i64.wrap (2 * x91)) + 1)))) + 1)) h221 h222, h221, h222⟩, ho90.one [] (IntKind.i64.wrap ((IntKind.i64.wrap (p85 + (IntKind.i64.wrap ((IntKind.i64.wrap (2 * x91)) + 1)))) + 1)) h221 h222 hs (k := 0) rfl⟩) ?_
          refine at_x1 1 18 (#[true, true, true, true, true, true, true, true, true, true, true, true, true, true, true, true, true, true, true, false]) rfl (by kernel_rfl) (by kernel_rfl) rfl rfl ?_
          obtain ⟨b6, H223, H⟩ := bind_some H
          have hm_ := cmp_Less_string.calls (I0 := I) H223
          refine eff_call rfl rfl ok24 rfl rfl (show Meets Try.prog 24 ([str (rdA [] x86 (IntKind.i64.wrap (p85 + (IntKind.i64.wrap ((IntKind.i64.wrap (2 * x91)) + 1))))), str (rdA [] x86 (IntKind.i64.wrap ((IntKind.i64.wrap (p85 + (IntKind.i64.wrap ((IntKind.i64.wrap (2 * x91)) + 1)))) + 1)))] : List Value).toArray _ [] _ from hm_) (Mr := (s89 :: Fs)) (List.Perm.refl _) (fun v224 J225 M226 hq227 hJ228 => ?_)
          replace hle := hle.trans hJ228
          replace ho90 := ho90.mono hJ228
          obtain ⟨rfl, rfl⟩ := hq227
          refine at_xS (fun w hs => ⟨ho90.one [] (IntKind.i64.wrap (p85 + (IntKind.i64.wrap ((IntKind.i64.wrap (2 * x91)) + 1)))) h219 h220 hs (k := 0) rfl, ho90.one [] (IntKind.i64.wrap ((IntKind.i64.wrap (p85 + (IntKind.i64.wrap ((IntKind.i64.wrap (2 * x91)) + 1)))) + 1)) h221 h222 hs (k := 0) rfl⟩) ?_
          refine at_xseg [19] 0 (#[true, true, true, true, true, true, true, true, true, true, true, true, true, true, true, true, true, true, true, true]) rfl (by kernel_rfl) [] [0, 2, 3, 8, 9, 36] (L2 := [(0, .slice A79 x86.length c80), (2, .int .i64 p84), (3, .int .i64 p85), (8, .int .i64 x91), (9, .int .i64 (IntKind.i64.wrap ((IntKind.i64.wrap (2 * x91)) + 1))), (36, .bool b6)]) (obs := []) (by kernel_rfl) (by kernel_rfl) (by kernel_rfl) (.inr fun w hs => ⟨ho90.one [] (IntKind.i64.wrap (p85 + (IntKind.i64.wrap ((IntKind.i64.wrap (2 * x91)) + 1)))) h219 h220 hs (k := 0) rfl, ho90.one [] (IntKind.i64.wrap ((IntKind.i64.wrap (p85 + (IntKind.i64.wrap ((IntKind.i64.wrap (2 * x91)) + 1)))) + 1)) h221 h222 hs (k := 0) rfl⟩) (fun w hS => trivial) (fun w hs => trivial) ?_
          refine at_xend (by kernel_rfl) ?_
          refine at_thn ?_
          by_cases h229 : b6 = true
          · rw [if_pos h229] at H
            refine at_cond_t rfl (h229) ?_
            refine at_reg [] [0, 2, 3, 8, 9] (L2 := [(0, .slice A79 x86.length c80), (2, .int .i64 p84), (3, .int .i64 p85), (8, .int .i64 x91), (9, .int .i64 (IntKind.i64.wrap ((IntKind.i64.wrap ((IntKind.i64.wrap (2 * x91)) + 1)) + 1)))]) (obs := []) (by kernel_rfl) ?_ ?_
            · intro w hs; exact trivial
            refine at_thn ?_
            refine at_keep [0, 2, 3, 8, 9] (L2 := [(0, .slice A79 x86.length c80), (2, .int .i64 p84), (3, .int .i64 p85), (8, .int .i64 x91), (9, .int .i64 (IntKind.i64.wrap ((IntKind.i64.wrap ((IntKind.i64.wrap (2 * x91)) + 1)) + 1)))]) rfl ?_
            exact Jn97 _ _ _ ⟨_, IntKind.i64.wrap ((IntKind.i64.wrap ((IntKind.i64.wrap (2 * x91)) + 1)) + 1), rfl, rfl, H, hle, by omega, ho90⟩
          · rw [if_neg h229] at H
            refine at_cond_f rfl (ff_of h229) ?_
            refine at_skip ?_
            refine at_thn ?_
            refine at_keep [0, 2, 3, 8, 9] (L2 := [(0, .slice A79 x86.length c80), (2, .int .i64 p84), (3, .int .i64 p85), (8, .int .i64 x91), (9, .int .i64 (IntKind.i64.wrap ((IntKind.i64.wrap (2 * x91)) + 1)))]) rfl ?_
            exact Jn97 _ _ _ ⟨_, IntKind.i64.wrap ((IntKind.i64.wrap (2 * x91)) + 1), rfl, rfl, H, hle, by omega, ho90⟩
        · rw [if_neg h218] at H
          refine at_x hmo (fun w => True) [] ?_
          refine at_xseg [0, 1, 2, 3, 4, 5, 6, 7, 8, 9, 10, 11, 12, 13, 14, 15, 16, 17] 2 (#[true, true, true, true, true, true, true, true, true, true, true, true, true, true, true, true, true, true, false, false]) rfl (by kernel_rfl) [(4, .bool false)] [0, 2, 3, 8, 9, 21, 27, 34] (L2 := [(0, .slice A79 x86.length c80), (2, .int .i64 p84), (3, .int .i64 p85), (8, .int .i64 x91), (9, .int .i64 (IntKind.i64.wrap ((IntKind.i64.wrap (2 * x91)) + 1))), (21, .bool false), (27, undef), (34, undef)]) (obs := [fun _ => (.bool (decide ((IntKind.i64.wrap ((IntKind.i64.wrap ((IntKind.i64.wrap (2 * x91)) + 1)) + 1)) < p84)) : Value) = .bool false]) (by kernel_rfl) (by kernel_rfl) (by kernel_rfl) (.inr fun w hs => trivial) (fun w hS => congrArg Value.bool (decide_eq_false h218)) (fun w hs => congrArg Value.bool (decide_eq_false h218)) ?_
          refine at_xseg [18, 19] 0 (#[true, true, true, true, true, true, true, true, true, true, true, true, true, true, true, true, true, true, true, true]) rfl (by kernel_rfl) [] [0, 2, 3, 8, 9, 36] (L2 := [(0, .slice A79 x86.length c80), (2, .int .i64 p84), (3, .int .i64 p85), (8, .int .i64 x91), (9, .int .i64 (IntKind.i64.wrap ((IntKind.i64.wrap (2 * x91)) + 1))), (36, .bool false)]) (obs := []) (by kernel_rfl) (by kernel_rfl) (by kernel_rfl) (.inr fun w hs => trivial) (fun w hS => trivial) (fun w hs => trivial) ?_
          refine at_xend (by kernel_rfl) ?_
          refine at_thn ?_
          refine at_cond_f rfl (rfl) ?_
          refine at_skip ?_
          refine at_thn ?_
          refine at_keep [0, 2, 3, 8, 9] (L2 := [(0, .slice A79 x86.length c80), (2, .int .i64 p84), (3, .int .i64 p85), (8, .int .i64 x91), (9, .int .i64 (IntKind.i64.wrap ((IntKind.i64.wrap (2 * x91)) + 1)))]) rfl ?_
          exact Jn97 _ _ _ ⟨_, IntKind.i64.wrap ((IntKind.i64.wrap (2 * x91)) + 1), rfl, rfl, H, hle, by omega, ho90⟩
end Go.Proofs.Ytgdbigafcjaohaa
