import Derived.Test.YtgdbigafcjaohaaG4
namespace Go.Proofs.Ytgdbigafcjaohaa
open Go Eng
set_option linter.unusedVariables false
set_option linter.unusedSimpArgs false
/-! ### slices.partialInsertionSortOrdered[string]: function 23 -/
mutual
def slices_partialInsertionSortOrdered_string_l0 : Nat → (List (List UInt8)) → Int → Int → (List (List UInt8)) → Int → Int → Option (Bool × (List (List UInt8)))
  | 0, _, _, _, _, _, _ => none
  | k + 1, x99, x104, x105, p92, p97, p98 => if x105 < 5 then (slices_partialInsertionSortOrdered_string_l3 k x104 p92 p97 p98 x99 x105) else (if x99.length = p92.length then (some (false, x99)) else none)
def slices_partialInsertionSortOrdered_string_l3 : Nat → Int → (List (List UInt8)) → Int → Int → (List (List UInt8)) → Int → Option (Bool × (List (List UInt8)))
  | 0, _, _, _, _, _, _ => none
  | k + 1, x389, p92, p97, p98, x99, x105 => if x389 < p98 then (if 0 ≤ x389 then (if x389 < (x99.length : Int) then (if 0 ≤ (IntKind.i64.wrap (x389 - 1)) then (if (IntKind.i64.wrap (x389 - 1)) < (x99.length : Int) then ((cmp_Less_string (rdA [] x99 x389) (rdA [] x99 (IntKind.i64.wrap (x389 - 1)))).bind fun b9 => (if b9 = true then (slices_partialInsertionSortOrdered_string_j0 k x389 p92 p97 p98 x99 x105) else (slices_partialInsertionSortOrdered_string_l3 k (IntKind.i64.wrap (x389 + 1)) p92 p97 p98 x99 x105))) else none) else none) else none) else none) else (slices_partialInsertionSortOrdered_string_j0 k x389 p92 p97 p98 x99 x105)
def slices_partialInsertionSortOrdered_string_j0 : Nat → Int → (List (List UInt8)) → Int → Int → (List (List UInt8)) → Int → Option (Bool × (List (List UInt8)))
  | 0, _, _, _, _, _, _ => none
  | k + 1, x211, p92, p97, p98, x99, x105 => if x211 = p98 then (if x99.length = p92.length then (some (true, x99)) else none) else (if (IntKind.i64.wrap (p98 - p97)) < 50 then (if x99.length = p92.length then (some (false, x99)) else none) else (if 0 ≤ (IntKind.i64.wrap (x211 - 1)) then (if (IntKind.i64.wrap (x211 - 1)) < (x99.length : Int) then (if 0 ≤ x211 then (if x211 < (x99.length : Int) then (if (IntKind.i64.wrap (x211 - 1)) < ((x99.set x211.toNat (rdA [] x99 (IntKind.i64.wrap (x211 - 1)))).length : Int) then (if (IntKind.i64.wrap (x211 - p97)) ≥ 2 then (slices_partialInsertionSortOrdered_string_l2 k ((x99.set x211.toNat (rdA [] x99 (IntKind.i64.wrap (x211 - 1)))).set (IntKind.i64.wrap (x211 - 1)).toNat (rdA [] x99 x211)) (IntKind.i64.wrap (x211 - 1)) p92 p97 p98 x105 x211) else (slices_partialInsertionSortOrdered_string_j1 k ((x99.set x211.toNat (rdA [] x99 (IntKind.i64.wrap (x211 - 1)))).set (IntKind.i64.wrap (x211 - 1)).toNat (rdA [] x99 x211)) p92 p97 p98 x105 x211)) else none) else none) else none) else none) else none))
def slices_partialInsertionSortOrdered_string_l2 : Nat → (List (List UInt8)) → Int → (List (List UInt8)) → Int → Int → Int → Int → Option (Bool × (List (List UInt8)))
  | 0, _, _, _, _, _, _, _ => none
  | k + 1, x363, x368, p92, p97, p98, x105, x211 => if x368 ≥ 1 then (if 0 ≤ x368 then (if x368 < (x363.length : Int) then (if 0 ≤ (IntKind.i64.wrap (x368 - 1)) then (if (IntKind.i64.wrap (x368 - 1)) < (x363.length : Int) then ((cmp_Less_string (rdA [] x363 x368) (rdA [] x363 (IntKind.i64.wrap (x368 - 1)))).bind fun b8 => (if b8 = true then (if (IntKind.i64.wrap (x368 - 1)) < ((x363.set x368.toNat (rdA [] x363 (IntKind.i64.wrap (x368 - 1)))).length : Int) then (slices_partialInsertionSortOrdered_string_l2 k ((x363.set x368.toNat (rdA [] x363 (IntKind.i64.wrap (x368 - 1)))).set (IntKind.i64.wrap (x368 - 1)).toNat (rdA [] x363 x368)) (IntKind.i64.wrap (x368 - 1)) p92 p97 p98 x105 x211) else none) else (slices_partialInsertionSortOrdered_string_j1 k x363 p92 p97 p98 x105 x211))) else none) else none) else none) else none) else (slices_partialInsertionSortOrdered_string_j1 k x363 p92 p97 p98 x105 x211)
def slices_partialInsertionSortOrdered_string_j1 : Nat → (List (List UInt8)) → (List (List UInt8)) → Int → Int → Int → Int → Option (Bool × (List (List UInt8)))
  | 0, _, _, _, _, _, _ => none
  | k + 1, x328, p92, p97, p98, x105, x211 => if (IntKind.i64.wrap (p98 - x211)) ≥ 2 then (slices_partialInsertionSortOrdered_string_l1 k x328 (IntKind.i64.wrap (x211 + 1)) p92 p97 p98 x105 x211) else (slices_partialInsertionSortOrdered_string_l0 k x328 x211 (IntKind.i64.wrap (x105 + 1)) p92 p97 p98)
def slices_partialInsertionSortOrdered_string_l1 : Nat → (List (List UInt8)) → Int → (List (List UInt8)) → Int → Int → Int → Int → Option (Bool × (List (List UInt8)))
  | 0, _, _, _, _, _, _, _ => none
  | k + 1, x336, x341, p92, p97, p98, x105, x211 => if x341 < p98 then (if 0 ≤ x341 then (if x341 < (x336.length : Int) then (if 0 ≤ (IntKind.i64.wrap (x341 - 1)) then (if (IntKind.i64.wrap (x341 - 1)) < (x336.length : Int) then ((cmp_Less_string (rdA [] x336 x341) (rdA [] x336 (IntKind.i64.wrap (x341 - 1)))).bind fun b7 => (if b7 = true then (if (IntKind.i64.wrap (x341 - 1)) < ((x336.set x341.toNat (rdA [] x336 (IntKind.i64.wrap (x341 - 1)))).length : Int) then (slices_partialInsertionSortOrdered_string_l1 k ((x336.set x341.toNat (rdA [] x336 (IntKind.i64.wrap (x341 - 1)))).set (IntKind.i64.wrap (x341 - 1)).toNat (rdA [] x336 x341)) (IntKind.i64.wrap (x341 + 1)) p92 p97 p98 x105 x211) else none) else (slices_partialInsertionSortOrdered_string_l0 k x336 x211 (IntKind.i64.wrap (x105 + 1)) p92 p97 p98))) else none) else none) else none) else none) else (slices_partialInsertionSortOrdered_string_l0 k x336 x211 (IntKind.i64.wrap (x105 + 1)) p92 p97 p98)
end
def slices_partialInsertionSortOrdered_string (k : Nat) (p92 : List (List UInt8)) (p97 : Int) (p98 : Int) : Option (Bool × (List (List UInt8))) := slices_partialInsertionSortOrdered_string_l0 k p92 (IntKind.i64.wrap (p97 + 1)) 0 p92 p97 p98
set_option maxHeartbeats 4000000 in
set_option maxRecDepth 100000 in
theorem slices_partialInsertionSortOrdered_string.calls {k : Nat} {p92 : List (List UInt8)} {p97 : Int} {p98 : Int} {r : Bool × (List (List UInt8))} {I0 : Imm} {A93 : Option Addr} {c94 : Nat} {s95 : Seg} (H : slices_partialInsertionSortOrdered_string k p92 p97 p98 = some r) (ho96 : Own Kd.string 9 I0 A93 c94 p92 s95) :
    Meets Try.prog 23 ([.slice A93 p92.length c94, .int .i64 p97, .int .i64 p98] : List Value).toArray I0 [s95] (fun v J M => ∃ (s_1 : Seg), v = .bool r.1 ∧ M = [s_1] ∧ Own Kd.string 9 J A93 c94 r.2 s_1 ∧ r.2.length = p92.length) := by
  have hle := ImmLe.refl I0
  unfold slices_partialInsertionSortOrdered_string at H
  refine fn_intro (fn := Try.f23) 133 Try.func23 rfl rfl rfl (fun E Fs => ?_)
  refine at_seq ?_
  refine at_reg [] [0, 1, 2] (L2 := [(0, .slice A93 p92.length c94), (1, .int .i64 p97), (2, .int .i64 p98)]) (obs := []) (by kernel_rfl) ?_ ?_
  · intro w hs; exact trivial
  refine at_thn ?_
  refine at_seq ?_
  refine at_reg [] [0, 1, 2, 7] (L2 := [(0, .slice A93 p92.length c94), (1, .int .i64 p97), (2, .int .i64 p98), (7, .int .i64 (IntKind.i64.wrap (p97 + 1)))]) (obs := []) (by kernel_rfl) ?_ ?_
  · intro w hs; exact trivial
  refine at_thn ?_
  refine at_seq ?_
  refine at_seq ?_
  refine at_reg [] [0, 1, 2, 7, 8] (L2 := [(0, .slice A93 p92.length c94), (1, .int .i64 p97), (2, .int .i64 p98), (7, .int .i64 (IntKind.i64.wrap (p97 + 1))), (8, .int .i64 0)]) (obs := []) (by kernel_rfl) ?_ ?_
  · intro w hs; exact trivial
  refine at_thn ?_
  refine at_block ?_
  refine at_keep [0, 1, 2, 7, 8] (L2 := [(0, .slice A93 p92.length c94), (1, .int .i64 p97), (2, .int .i64 p98), (7, .int .i64 (IntKind.i64.wrap (p97 + 1))), (8, .int .i64 0)]) rfl ?_
  refine at_loop (fun k106 L I Ms => ∃ (x99 : List (List UInt8)) (s102 : Seg) (x104 : Int) (x105 : Int), L = [(0, .slice A93 x99.length c94), (1, .int .i64 p97), (2, .int .i64 p98), (7, .int .i64 x104), (8, .int .i64 x105)] ∧ Ms = (s102 :: Fs) ∧ slices_partialInsertionSortOrdered_string_l0 k106 x99 x104 x105 p92 p97 p98 = some r ∧ ImmLe I0 I ∧ k106 ≤ k ∧ Own Kd.string 9 I A93 c94 x99 s102) ?_ ?_ k ⟨p92, s95, IntKind.i64.wrap (p97 + 1), 0, rfl, rfl, H, hle, Nat.le_refl _, ho96⟩
  · rintro L I Ms ⟨_, _, _, _, rfl, rfl, H, _⟩; exact no_none H
  · clear H hle ho96
    intro k106 ih107 L I Ms h_; obtain ⟨x99, s102, x104, x105, hL_, hM_, H, hle, hk108, ho103⟩ := h_; rw [hL_, hM_]; clear hL_ hM_ L Ms
    rw [slices_partialInsertionSortOrdered_string_l0] at H
    refine at_seq ?_
    refine at_seq ?_
    refine at_reg [] [0, 1, 2, 7, 8, 14] (L2 := [(0, .slice A93 x99.length c94), (1, .int .i64 p97), (2, .int .i64 p98), (7, .int .i64 x104), (8, .int .i64 x105), (14, .bool (decide (x105 < 5)))]) (obs := []) (by kernel_rfl) ?_ ?_
    · intro w hs; exact trivial
    refine at_thn ?_
    by_cases h109 : x105 < 5
    · rw [if_pos h109] at H
      refine at_cond_t rfl (decide_eq_true h109) ?_
      refine at_skip ?_
      refine at_thn ?_
      refine at_seq ?_
      refine at_block ?_
      refine at_join (fun L I Ms => ∃ (k212 : Nat), ∃ (x211 : Int), L = [(0, .slice A93 x99.length c94), (1, .int .i64 p97), (2, .int .i64 p98), (7, .int .i64 x211), (8, .int .i64 x105)] ∧ Ms = (s102 :: Fs) ∧ slices_partialInsertionSortOrdered_string_j0 k212 x211 p92 p97 p98 x99 x105 = some r ∧ ImmLe I0 I ∧ k212 ≤ k106 ∧ Own Kd.string 9 I A93 c94 x99 s102) ?_ ?_
      · clear H hle ho103
        intro L I Ms h_; obtain ⟨k212, x211, hL_, hM_, H, hle, hk213, ho103⟩ := h_; rw [hL_, hM_]; clear hL_ hM_ L Ms
        rcases k212 with _ | k212
        · exact (no_none H).elim
        rw [slices_partialInsertionSortOrdered_string_j0] at H
        refine at_seq ?_
        refine at_seq ?_
        refine at_reg [] [0, 1, 2, 7, 8, 37] (L2 := [(0, .slice A93 x99.length c94), (1, .int .i64 p97), (2, .int .i64 p98), (7, .int .i64 x211), (8, .int .i64 x105), (37, .bool (x211 == p98))]) (obs := []) (by kernel_rfl) ?_ ?_
        · intro w hs; exact trivial
        refine at_thn ?_
        by_cases h214 : x211 = p98
        · rw [if_pos h214] at H
          refine at_cond_t rfl (beq_iff_eq.2 h214) ?_
          refine at_seq ?_
          refine at_reg [] [0, 6] (L2 := [(0, .slice A93 x99.length c94), (6, .bool true)]) (obs := []) (by kernel_rfl) ?_ ?_
          · intro w hs; exact trivial
          refine at_thn ?_
          refine at_ret ?_
          refine at_then_ret ?_
          refine at_in_ret ?_
          refine at_then_ret ?_
          refine at_then_ret ?_
          refine at_in_ret ?_
          refine at_then_ret ?_
          obtain ⟨h215, H⟩ := ite_some H
          obtain rfl := Option.some.inj H
          refine at_done (vs := [.bool true]) (obs := []) (.inl rfl) [.tmp 6] [] rfl (by kernel_rfl) (fun w hs => trivial) (fun w hs => ⟨_, _, [s102], rfl, ⟨s102, rfl, rfl, ho103, h215⟩, hle, hs⟩)
        · rw [if_neg h214] at H
          refine at_cond_f rfl (beq_eq_false_iff_ne.2 h214) ?_
          refine at_skip ?_
          refine at_thn ?_
          refine at_seq ?_
          refine at_seq ?_
          refine at_reg [] [0, 1, 2, 7, 8, 41] (L2 := [(0, .slice A93 x99.length c94), (1, .int .i64 p97), (2, .int .i64 p98), (7, .int .i64 x211), (8, .int .i64 x105), (41, .bool (decide ((IntKind.i64.wrap (p98 - p97)) < 50)))]) (obs := []) (by kernel_rfl) ?_ ?_
          · intro w hs; exact trivial
          refine at_thn ?_
          by_cases h216 : (IntKind.i64.wrap (p98 - p97)) < 50
          · rw [if_pos h216] at H
            refine at_cond_t rfl (decide_eq_true h216) ?_
            refine at_seq ?_
            refine at_reg [] [0, 6] (L2 := [(0, .slice A93 x99.length c94), (6, .bool false)]) (obs := []) (by kernel_rfl) ?_ ?_
            · intro w hs; exact trivial
            refine at_thn ?_
            refine at_ret ?_
            refine at_then_ret ?_
            refine at_in_ret ?_
            refine at_then_ret ?_
            refine at_then_ret ?_
            refine at_in_ret ?_
            refine at_then_ret ?_
            obtain ⟨h217, H⟩ := ite_some H
            obtain rfl := Option.some.inj H
            refine at_done (vs := [.bool false]) (obs := []) (.inl rfl) [.tmp 6] [] rfl (by kernel_rfl) (fun w hs => trivial) (fun w hs => ⟨_, _, [s102], rfl, ⟨s102, rfl, rfl, ho103, h217⟩, hle, hs⟩)
          · rw [if_neg h216] at H
            refine at_cond_f rfl (decide_eq_false h216) ?_
            refine at_skip ?_
            refine at_thn ?_
            refine at_seq ?_
            obtain ⟨h218, H⟩ := ite_some H
            obtain ⟨h219, H⟩ := ite_some H
            obtain ⟨h220, H⟩ := ite_some H
            obtain ⟨h221, H⟩ := ite_some H
            refine at_x hmo (fun w => w.cell? ((A93.getD ad0).add ((IntKind.i64.wrap (x211 - 1)).toNat * 1)) = some (str (rdA [] x99 (IntKind.i64.wrap (x211 - 1)))) ∧ w.cell? ((A93.getD ad0).add (x211.toNat * 1)) = some (str (rdA [] x99 x211))) [15, 17] ?_
            refine at_xseg [0, 1, 2, 3, 4, 5, 6, 7, 8, 9, 10, 11, 12, 13, 14] 3 (#[true, true, true, true, true, true, true, true, true, true, true, true, true, true, true, false, false, false]) rfl (by kernel_rfl) [(9, str (rdA [] x99 (IntKind.i64.wrap (x211 - 1)))), (13, str (rdA [] x99 x211))] [0, 1, 2, 7, 8, 44, 46, 51, 55, 56] (L2 := [(0, .slice A93 x99.length c94), (1, .int .i64 p97), (2, .int .i64 p98), (7, .int .i64 x211), (8, .int .i64 x105), (44, .slice A93 x99.length c94), (46, .int .i64 (IntKind.i64.wrap (x211 - 1))), (51, str (rdA [] x99 (IntKind.i64.wrap (x211 - 1)))), (55, str (rdA [] x99 x211)), (56, .pointer (some ((A93.getD ad0).add (x211.toNat * 1))))]) (obs := [fun _ => A93.isSome = true ∧ 0 ≤ (IntKind.i64.wrap (x211 - 1)) ∧ (IntKind.i64.wrap (x211 - 1)) < ((x99.length : Nat) : Int), fun w => w.cell? ((A93.getD ad0).add ((IntKind.i64.wrap (x211 - 1)).toNat * 1)) = some (str (rdA [] x99 (IntKind.i64.wrap (x211 - 1)))), fun _ => A93.isSome = true ∧ 0 ≤ x211 ∧ x211 < ((x99.length : Nat) : Int), fun w => w.cell? ((A93.getD ad0).add (x211.toNat * 1)) = some (str (rdA [] x99 x211)), fun _ => A93.isSome = true ∧ 0 ≤ x211 ∧ x211 < ((x99.length : Nat) : Int)]) (by kernel_rfl) (by kernel_rfl) (by kernel_rfl) (.inr fun w hs => ⟨ho103.one [] (IntKind.i64.wrap (x211 - 1)) h218 h219 hs (k := 0) rfl, ho103.one [] x211 h220 h221 hs (k := 0) rfl⟩) (fun w hS => ⟨⟨ho103.ne (IntKind.i64.wrap (x211 - 1)) h218 h219, h218, h219⟩, hS.1, ⟨ho103.ne x211 h220 h221, h220, h221⟩, hS.2, ⟨ho103.ne x211 h220 h221, h220, h221⟩⟩) (fun w hs => ⟨⟨ho103.ne (IntKind.i64.wrap (x211 - 1)) h218 h219, h218, h219⟩, ho103.one [] (IntKind.i64.wrap (x211 - 1)) h218 h219 hs (k := 0) rfl, ⟨ho103.ne x211 h220 h221, h220, h221⟩, ho103.one [] x211 h220 h221 hs (k := 0) rfl, ⟨ho103.ne x211 h220 h221, h220, h221⟩⟩) ?_
            refine at_x1 2 15 (#[true, true, true, true, true, true, true, true, true, true, true, true, true, true, true, true, false, false]) rfl (by kernel_rfl) (by kernel_rfl) rfl rfl ?_
            refine eff_storeOwn (K := Kd.string) (u := rdA [] x99 (IntKind.i64.wrap (x211 - 1))) 0 0 [] x211 rfl rfl rfl rfl ho103 rfl h220 h221 (add0 _).symm rfl (Nat.le_of_ble_eq_true (by kernel_rfl)) rfl (by rintro cs_ rfl; rfl) (fun s222 ho223 => ?_)
            refine at_eqL2 (L1 := [(0, .slice A93 x99.length c94), (1, .int .i64 p97), (2, .int .i64 p98), (7, .int .i64 x211), (8, .int .i64 x105), (44, .slice A93 x99.length c94), (46, .int .i64 (IntKind.i64.wrap (x211 - 1))), (51, str (rdA [] x99 (IntKind.i64.wrap (x211 - 1)))), (55, str (rdA [] x99 x211)), (56, .pointer (some ((A93.getD ad0).add (x211.toNat * 1))))]) (L2 := [(0, .slice A93 (x99.set x211.toNat (rdA [] x99 (IntKind.i64.wrap (x211 - 1)))).length c94), (1, .int .i64 p97), (2, .int .i64 p98), (7, .int .i64 x211), (8, .int .i64 x105), (44, .slice A93 (x99.set x211.toNat (rdA [] x99 (IntKind.i64.wrap (x211 - 1)))).length c94), (46, .int .i64 (IntKind.i64.wrap (x211 - 1))), (51, str (rdA [] x99 (IntKind.i64.wrap (x211 - 1)))), (55, str (rdA [] x99 x211)), (56, .pointer (some ((A93.getD ad0).add (x211.toNat * 1))))]) rfl (by simp only [List.length_set]) ?_
            refine at_xX (by kernel_rfl) ?_
            obtain ⟨h224, H⟩ := ite_some H
            refine at_xseg [16] 1 (#[true, true, true, true, true, true, true, true, true, true, true, true, true, true, true, true, true, false]) rfl (by kernel_rfl) [] [0, 1, 2, 7, 8, 55, 57] (L2 := [(0, .slice A93 (x99.set x211.toNat (rdA [] x99 (IntKind.i64.wrap (x211 - 1)))).length c94), (1, .int .i64 p97), (2, .int .i64 p98), (7, .int .i64 x211), (8, .int .i64 x105), (55, str (rdA [] x99 x211)), (57, .pointer (some ((A93.getD ad0).add ((IntKind.i64.wrap (x211 - 1)).toNat * 1))))]) (obs := [fun _ => A93.isSome = true ∧ 0 ≤ (IntKind.i64.wrap (x211 - 1)) ∧ (IntKind.i64.wrap (x211 - 1)) < (((x99.set x211.toNat (rdA [] x99 (IntKind.i64.wrap (x211 - 1)))).length : Nat) : Int)]) (by kernel_rfl) (by kernel_rfl) (by kernel_rfl) (.inl (by kernel_rfl)) (fun w hS => ⟨ho223.ne (IntKind.i64.wrap (x211 - 1)) h218 h224, h218, h224⟩) (fun w hs => ⟨ho223.ne (IntKind.i64.wrap (x211 - 1)) h218 h224, h218, h224⟩) ?_
            refine at_x1 0 17 (#[true, true, true, true, true, true, true, true, true, true, true, true, true, true, true, true, true, true]) rfl (by kernel_rfl) (by kernel_rfl) rfl rfl ?_
            refine eff_storeOwn (K := Kd.string) (u := rdA [] x99 x211) 0 0 [] (IntKind.i64.wrap (x211 - 1)) rfl rfl rfl rfl ho223 rfl h218 h224 (add0 _).symm rfl (Nat.le_of_ble_eq_true (by kernel_rfl)) rfl (by rintro cs_ rfl; rfl) (fun s225 ho226 => ?_)
            refine at_eqL2 (L1 := [(0, .slice A93 (x99.set x211.toNat (rdA [] x99 (IntKind.i64.wrap (x211 - 1)))).length c94), (1, .int .i64 p97), (2, .int .i64 p98), (7, .int .i64 x211), (8, .int .i64 x105), (55, str (rdA [] x99 x211)), (57, .pointer (some ((A93.getD ad0).add ((IntKind.i64.wrap (x211 - 1)).toNat * 1))))]) (L2 := [(0, .slice A93 ((x99.set x211.toNat (rdA [] x99 (IntKind.i64.wrap (x211 - 1)))).set (IntKind.i64.wrap (x211 - 1)).toNat (rdA [] x99 x211)).length c94), (1, .int .i64 p97), (2, .int .i64 p98), (7, .int .i64 x211), (8, .int .i64 x105), (55, str (rdA [] x99 x211)), (57, .pointer (some ((A93.getD ad0).add ((IntKind.i64.wrap (x211 - 1)).toNat * 1))))]) rfl (by simp only [List.length_set]) ?_
            refine at_xX (by kernel_rfl) ?_
            refine at_xend (by kernel_rfl) ?_
            refine at_thn ?_
            refine at_join (fun L I Ms => ∃ (k333 : Nat), ∃ (x328 : List (List UInt8)) (s331 : Seg), L = [(0, .slice A93 x328.length c94), (1, .int .i64 p97), (2, .int .i64 p98), (7, .int .i64 x211), (8, .int .i64 x105)] ∧ Ms = (s331 :: Fs) ∧ slices_partialInsertionSortOrdered_string_j1 k333 x328 p92 p97 p98 x105 x211 = some r ∧ ImmLe I0 I ∧ k333 ≤ k212 ∧ Own Kd.string 9 I A93 c94 x328 s331) ?_ ?_
            · clear H hle ho226
              intro L I Ms h_; obtain ⟨k333, x328, s331, hL_, hM_, H, hle, hk334, ho332⟩ := h_; rw [hL_, hM_]; clear hL_ hM_ L Ms
              rcases k333 with _ | k333
              · exact (no_none H).elim
              rw [slices_partialInsertionSortOrdered_string_j1] at H
              refine at_seq ?_
              refine at_reg [] [0, 1, 2, 7, 8, 98] (L2 := [(0, .slice A93 x328.length c94), (1, .int .i64 p97), (2, .int .i64 p98), (7, .int .i64 x211), (8, .int .i64 x105), (98, .bool (decide ((IntKind.i64.wrap (p98 - x211)) ≥ 2)))]) (obs := []) (by kernel_rfl) ?_ ?_
              · intro w hs; exact trivial
              refine at_thn ?_
              by_cases h335 : (IntKind.i64.wrap (p98 - x211)) ≥ 2
              · rw [if_pos h335] at H
                refine at_cond_t rfl (decide_eq_true h335) ?_
                refine at_seq ?_
                refine at_reg [] [0, 1, 2, 7, 8, 10] (L2 := [(0, .slice A93 x328.length c94), (1, .int .i64 p97), (2, .int .i64 p98), (7, .int .i64 x211), (8, .int .i64 x105), (10, .int .i64 (IntKind.i64.wrap (x211 + 1)))]) (obs := []) (by kernel_rfl) ?_ ?_
                · intro w hs; exact trivial
                refine at_thn ?_
                refine at_block ?_
                refine at_keep [0, 1, 2, 7, 8, 10] (L2 := [(0, .slice A93 x328.length c94), (1, .int .i64 p97), (2, .int .i64 p98), (7, .int .i64 x211), (8, .int .i64 x105), (10, .int .i64 (IntKind.i64.wrap (x211 + 1)))]) rfl ?_
                refine at_loop (fun k342 L I Ms => ∃ (x336 : List (List UInt8)) (s339 : Seg) (x341 : Int), L = [(0, .slice A93 x336.length c94), (1, .int .i64 p97), (2, .int .i64 p98), (7, .int .i64 x211), (8, .int .i64 x105), (10, .int .i64 x341)] ∧ Ms = (s339 :: Fs) ∧ slices_partialInsertionSortOrdered_string_l1 k342 x336 x341 p92 p97 p98 x105 x211 = some r ∧ ImmLe I0 I ∧ k342 ≤ k333 ∧ Own Kd.string 9 I A93 c94 x336 s339) ?_ ?_ k333 ⟨x328, s331, IntKind.i64.wrap (x211 + 1), rfl, rfl, H, hle, Nat.le_refl _, ho332⟩
                · rintro L I Ms ⟨_, _, _, rfl, rfl, H, _⟩; exact no_none H
                · clear H hle ho332
                  intro k342 ih343 L I Ms h_; obtain ⟨x336, s339, x341, hL_, hM_, H, hle, hk344, ho340⟩ := h_; rw [hL_, hM_]; clear hL_ hM_ L Ms
                  rw [slices_partialInsertionSortOrdered_string_l1] at H
                  refine at_seq ?_
                  refine at_seq ?_
                  refine at_reg [] [0, 1, 2, 7, 8, 10, 103] (L2 := [(0, .slice A93 x336.length c94), (1, .int .i64 p97), (2, .int .i64 p98), (7, .int .i64 x211), (8, .int .i64 x105), (10, .int .i64 x341), (103, .bool (decide (x341 < p98)))]) (obs := []) (by kernel_rfl) ?_ ?_
                  · intro w hs; exact trivial
                  refine at_thn ?_
                  by_cases h345 : x341 < p98
                  · rw [if_pos h345] at H
                    refine at_cond_t rfl (decide_eq_true h345) ?_
                    refine at_skip ?_
                    refine at_thn ?_
                    refine at_seq ?_
                    refine at_block ?_
                    refine at_seq ?_
                    refine at_seq ?_
                    obtain ⟨h346, H⟩ := ite_some H
                    obtain ⟨h347, H⟩ := ite_some H
                    obtain ⟨h348, H⟩ := ite_some H
                    obtain ⟨h349, H⟩ := ite_some H
                    refine at_x hmo (fun w => w.cell? ((A93.getD ad0).add (x341.toNat * 1)) = some (str (rdA [] x336 x341)) ∧ w.cell? ((A93.getD ad0).add ((IntKind.i64.wrap (x341 - 1)).toNat * 1)) = some (str (rdA [] x336 (IntKind.i64.wrap (x341 - 1))))) [] ?_
                    refine at_xseg [0, 1, 2, 3, 4, 5, 6, 7, 8] 2 (#[true, true, true, true, true, true, true, true, true, false, false]) rfl (by kernel_rfl) [(3, str (rdA [] x336 x341)), (8, str (rdA [] x336 (IntKind.i64.wrap (x341 - 1))))] [0, 1, 2, 7, 8, 10, 109, 114] (L2 := [(0, .slice A93 x336.length c94), (1, .int .i64 p97), (2, .int .i64 p98), (7, .int .i64 x211), (8, .int .i64 x105), (10, .int .i64 x341), (109, str (rdA [] x336 x341)), (114, str (rdA [] x336 (IntKind.i64.wrap (x341 - 1))))]) (obs := [fun _ => A93.isSome = true ∧ 0 ≤ x341 ∧ x341 < ((x336.length : Nat) : Int), fun w => w.cell? ((A93.getD ad0).add (x341.toNat * 1)) = some (str (rdA [] x336 x341)), fun _ => A93.isSome = true ∧ 0 ≤ (IntKind.i64.wrap (x341 - 1)) ∧ (IntKind.i64.wrap (x341 - 1)) < ((x336.length : Nat) : Int), fun w => w.cell? ((A93.getD ad0).add ((IntKind.i64.wrap (x341 - 1)).toNat * 1)) = some (str (rdA [] x336 (IntKind.i64.wrap (x341 - 1))))]) (by kernel_rfl) (by kernel_rfl) (by kernel_rfl) (.inr fun w hs => ⟨ho340.one [] x341 h346 h347 hs (k := 0) rfl, ho340.one [] (IntKind.i64.wrap (x341 - 1)) h348 h349 hs (k := 0) rfl⟩) (fun w hS => ⟨⟨ho340.ne x341 h346 h347, h346, h347⟩, hS.1, ⟨ho340.ne (IntKind.i64.wrap (x341 - 1)) h348 h349, h348, h349⟩, hS.2⟩) (fun w hs => ⟨⟨ho340.ne x341 h346 h347, h346, h347⟩, ho340.one [] x341 h346 h347 hs (k := 0) rfl, ⟨ho340.ne (IntKind.i64.wrap (x341 - 1)) h348 h349, h348, h349⟩, ho340.one [] (IntKind.i64.wrap (x341 - 1)) h348 h349 hs (k := 0) rfl⟩) ?_
                    refine at_x1 1 9 (#[true, true, true, true, true, true, true, true, true, true, false]) rfl (by kernel_rfl) (by kernel_rfl) rfl rfl ?_
                    obtain ⟨b7, H350, H⟩ := bind_some H
                    have hm_ := cmp_Less_string.calls (I0 := I) H350
                    refine eff_call rfl rfl ok24 rfl rfl (show Meets Try.prog 24 ([str (rdA [] x336 x341), str (rdA [] x336 (IntKind.i64.wrap (x341 - 1)))] : List Value).toArray _ [] _ from hm_) (Mr := (s339 :: Fs)) (List.Perm.refl _) (fun v351 J352 M353 hq354 hJ355 => ?_)
                    replace hle := hle.trans hJ355
                    replace ho340 := ho340.mono hJ355
                    obtain ⟨rfl, rfl⟩ := hq354
                    refine at_xS (fun w hs => ⟨ho340.one [] x341 h346 h347 hs (k := 0) rfl, ho340.one [] (IntKind.i64.wrap (x341 - 1)) h348 h349 hs (k := 0) rfl⟩) ?_
                    refine at_xseg [10] 0 (#[true, true, true, true, true, true, true, true, true, true, true]) rfl (by kernel_rfl) [] [0, 1, 2, 7, 8, 10, 116] (L2 := [(0, .slice A93 x336.length c94), (1, .int .i64 p97), (2, .int .i64 p98), (7, .int .i64 x211), (8, .int .i64 x105), (10, .int .i64 x341), (116, .bool (!b7))]) (obs := []) (by kernel_rfl) (by kernel_rfl) (by kernel_rfl) (.inr fun w hs => ⟨ho340.one [] x341 h346 h347 hs (k := 0) rfl, ho340.one [] (IntKind.i64.wrap (x341 - 1)) h348 h349 hs (k := 0) rfl⟩) (fun w hS => trivial) (fun w hs => trivial) ?_
                    refine at_xend (by kernel_rfl) ?_
                    refine at_thn ?_
                    by_cases h356 : b7 = true
                    · rw [if_pos h356] at H
                      refine at_cond_f rfl (not_ff (h356)) ?_
                      refine at_skip ?_
                      refine at_thn ?_
                      refine at_x hmo (fun w => w.cell? ((A93.getD ad0).add ((IntKind.i64.wrap (x341 - 1)).toNat * 1)) = some (str (rdA [] x336 (IntKind.i64.wrap (x341 - 1)))) ∧ w.cell? ((A93.getD ad0).add (x341.toNat * 1)) = some (str (rdA [] x336 x341))) [15, 17] ?_
                      refine at_xseg [0, 1, 2, 3, 4, 5, 6, 7, 8, 9, 10, 11, 12, 13, 14] 3 (#[true, true, true, true, true, true, true, true, true, true, true, true, true, true, true, false, false, false]) rfl (by kernel_rfl) [(9, str (rdA [] x336 (IntKind.i64.wrap (x341 - 1)))), (13, str (rdA [] x336 x341))] [0, 1, 2, 7, 8, 10, 119, 121, 126, 130, 131] (L2 := [(0, .slice A93 x336.length c94), (1, .int .i64 p97), (2, .int .i64 p98), (7, .int .i64 x211), (8, .int .i64 x105), (10, .int .i64 x341), (119, .slice A93 x336.length c94), (121, .int .i64 (IntKind.i64.wrap (x341 - 1))), (126, str (rdA [] x336 (IntKind.i64.wrap (x341 - 1)))), (130, str (rdA [] x336 x341)), (131, .pointer (some ((A93.getD ad0).add (x341.toNat * 1))))]) (obs := [fun _ => A93.isSome = true ∧ 0 ≤ (IntKind.i64.wrap (x341 - 1)) ∧ (IntKind.i64.wrap (x341 - 1)) < ((x336.length : Nat) : Int), fun w => w.cell? ((A93.getD ad0).add ((IntKind.i64.wrap (x341 - 1)).toNat * 1)) = some (str (rdA [] x336 (IntKind.i64.wrap (x341 - 1)))), fun _ => A93.isSome = true ∧ 0 ≤ x341 ∧ x341 < ((x336.length : Nat) : Int), fun w => w.cell? ((A93.getD ad0).add (x341.toNat * 1)) = some (str (rdA [] x336 x341)), fun _ => A93.isSome = true ∧ 0 ≤ x341 ∧ x341 < ((x336.length : Nat) : Int)]) (by kernel_rfl) (by kernel_rfl) (by kernel_rfl) (.inr fun w hs => ⟨ho340.one [] (IntKind.i64.wrap (x341 - 1)) h348 h349 hs (k := 0) rfl, ho340.one [] x341 h346 h347 hs (k := 0) rfl⟩) (fun w hS => ⟨⟨ho340.ne (IntKind.i64.wrap (x341 - 1)) h348 h349, h348, h349⟩, hS.1, ⟨ho340.ne x341 h346 h347, h346, h347⟩, hS.2, ⟨ho340.ne x341 h346 h347, h346, h347⟩⟩) (fun w hs => ⟨⟨ho340.ne (IntKind.i64.wrap (x341 - 1)) h348 h349, h348, h349⟩, ho340.one [] (IntKind.i64.wrap (x341 - 1)) h348 h349 hs (k := 0) rfl, ⟨ho340.ne x341 h346 h347, h346, h347⟩, ho340.one [] x341 h346 h347 hs (k := 0) rfl, ⟨ho340.ne x341 h346 h347, h346, h347⟩⟩) ?_
                      refine at_x1 2 15 (#[true, true, true, true, true, true, true, true, true, true, true, true, true, true, true, true, false, false]) rfl (by kernel_rfl) (by kernel_rfl) rfl rfl ?_
                      refine eff_storeOwn (K := Kd.string) (u := rdA [] x336 (IntKind.i64.wrap (x341 - 1))) 0 0 [] x341 rfl rfl rfl rfl ho340 rfl h346 h347 (add0 _).symm rfl (Nat.le_of_ble_eq_true (by kernel_rfl)) rfl (by rintro cs_ rfl; rfl) (fun s357 ho358 => ?_)
                      refine at_eqL2 (L1 := [(0, .slice A93 x336.length c94), (1, .int .i64 p97), (2, .int .i64 p98), (7, .int .i64 x211), (8, .int .i64 x105), (10, .int .i64 x341), (119, .slice A93 x336.length c94), (121, .int .i64 (IntKind.i64.wrap (x341 - 1))), (126, str (rdA [] x336 (IntKind.i64.wrap (x341 - 1)))), (130, str (rdA [] x336 x341)), (131, .pointer (some ((A93.getD ad0).add (x341.toNat * 1))))]) (L2 := [(0, .slice A93 (x336.set x341.toNat (rdA [] x336 (IntKind.i64.wrap (x341 - 1)))).length c94), (1, .int .i64 p97), (2, .int .i64 p98), (7, .int .i64 x211), (8, .int .i64 x105), (10, .int .i64 x341), (119, .slice A93 (x336.set x341.toNat (rdA [] x336 (IntKind.i64.wrap (x341 - 1)))).length c94), (121, .int .i64 (IntKind.i64.wrap (x341 - 1))), (126, str (rdA [] x336 (IntKind.i64.wrap (x341 - 1)))), (130, str (rdA [] x336 x341)), (131, .pointer (some ((A93.getD ad0).add (x341.toNat * 1))))]) rfl (by simp only [List.length_set]) ?_
                      refine at_xX (by kernel_rfl) ?_
                      obtain ⟨h359, H⟩ := ite_some H
                      refine at_xseg [16] 1 (#[true, true, true, true, true, true, true, true, true, true, true, true, true, true, true, true, true, false]) rfl (by kernel_rfl) [] [0, 1, 2, 7, 8, 10, 130, 132] (L2 := [(0, .slice A93 (x336.set x341.toNat (rdA [] x336 (IntKind.i64.wrap (x341 - 1)))).length c94), (1, .int .i64 p97), (2, .int .i64 p98), (7, .int .i64 x211), (8, .int .i64 x105), (10, .int .i64 x341), (130, str (rdA [] x336 x341)), (132, .pointer (some ((A93.getD ad0).add ((IntKind.i64.wrap (x341 - 1)).toNat * 1))))]) (obs := [fun _ => A93.isSome = true ∧ 0 ≤ (IntKind.i64.wrap (x341 - 1)) ∧ (IntKind.i64.wrap (x341 - 1)) < (((x336.set x341.toNat (rdA [] x336 (IntKind.i64.wrap (x341 - 1)))).length : Nat) : Int)]) (by kernel_rfl) (by kernel_rfl) (by kernel_rfl) (.inl (by kernel_rfl)) (fun w hS => ⟨ho358.ne (IntKind.i64.wrap (x341 - 1)) h348 h359, h348, h359⟩) (fun w hs => ⟨ho358.ne (IntKind.i64.wrap (x341 - 1)) h348 h359, h348, h359⟩) ?_
                      refine at_x1 0 17 (#[true, true, true, true, true, true, true, true, true, true, true, true, true, true, true, true, true, true]) rfl (by kernel_rfl) (by kernel_rfl) rfl rfl ?_
                      refine eff_storeOwn (K := Kd.string) (u := rdA [] x336 x341) 0 0 [] (IntKind.i64.wrap (x341 - 1)) rfl rfl rfl rfl ho358 rfl h348 h359 (add0 _).symm rfl (Nat.le_of_ble_eq_true (by kernel_rfl)) rfl (by rintro cs_ rfl; rfl) (fun s360 ho361 => ?_)
                      refine at_eqL2 (L1 := [(0, .slice A93 (x336.set x341.toNat (rdA [] x336 (IntKind.i64.wrap (x341 - 1)))).length c94), (1, .int .i64 p97), (2, .int .i64 p98), (7, .int .i64 x211), (8, .int .i64 x105), (10, .int .i64 x341), (130, str (rdA [] x336 x341)), (132, .pointer (some ((A93.getD ad0).add ((IntKind.i64.wrap (x341 - 1)).toNat * 1))))]) (L2 := [(0, .slice A93 ((x336.set x341.toNat (rdA [] x336 (IntKind.i64.wrap (x341 - 1)))).set (IntKind.i64.wrap (x341 - 1)).toNat (rdA [] x336 x341)).length c94), (1, .int .i64 p97), (2, .int .i64 p98), (7, .int .i64 x211), (8, .int .i64 x105), (10, .int .i64 x341), (130, str (rdA [] x336 x341)), (132, .pointer (some ((A93.getD ad0).add ((IntKind.i64.wrap (x341 - 1)).toNat * 1))))]) rfl (by simp only [List.length_set]) ?_
                      refine at_xX (by kernel_rfl) ?_
                      refine at_xend (by kernel_rfl) ?_
                      refine at_in_norm ?_
                      refine at_thn ?_
                      refine at_reg [] [0, 1, 2, 7, 8, 10] (L2 := [(0, .slice A93 ((x336.set x341.toNat (rdA [] x336 (IntKind.i64.wrap (x341 - 1)))).set (IntKind.i64.wrap (x341 - 1)).toNat (rdA [] x336 x341)).length c94), (1, .int .i64 p97), (2, .int .i64 p98), (7, .int .i64 x211), (8, .int .i64 x105), (10, .int .i64 (IntKind.i64.wrap (x341 + 1)))]) (obs := []) (by kernel_rfl) ?_ ?_
                      · intro w hs; exact trivial
                      refine at_thn ?_
                      refine at_keep [0, 1, 2, 7, 8, 10] (L2 := [(0, .slice A93 ((x336.set x341.toNat (rdA [] x336 (IntKind.i64.wrap (x341 - 1)))).set (IntKind.i64.wrap (x341 - 1)).toNat (rdA [] x336 x341)).length c94), (1, .int .i64 p97), (2, .int .i64 p98), (7, .int .i64 x211), (8, .int .i64 x105), (10, .int .i64 (IntKind.i64.wrap (x341 + 1)))]) rfl ?_
                      exact ih343 _ (by omega) _ _ _ ⟨(x336.set x341.toNat (rdA [] x336 (IntKind.i64.wrap (x341 - 1)))).set (IntKind.i64.wrap (x341 - 1)).toNat (rdA [] x336 x341), s360, IntKind.i64.wrap (x341 + 1), rfl, rfl, H, hle, by omega, ho361⟩
                    · rw [if_neg h356] at H
                      refine at_cond_t rfl (not_tt (ff_of h356)) ?_
                      refine at_exit ?_
                      refine at_then_exit ?_
                      refine at_in_miss (by decide) ?_
                      refine at_then_exit ?_
                      refine at_then_exit ?_
                      refine at_in_hit ?_
                      refine at_in_norm ?_
                      refine at_thn ?_
                      refine at_reg [] [0, 1, 2, 7, 8] (L2 := [(0, .slice A93 x336.length c94), (1, .int .i64 p97), (2, .int .i64 p98), (7, .int .i64 x211), (8, .int .i64 (IntKind.i64.wrap (x105 + 1)))]) (obs := []) (by kernel_rfl) ?_ ?_
                      · intro w hs; exact trivial
                      refine at_thn ?_
                      refine at_keep [0, 1, 2, 7, 8] (L2 := [(0, .slice A93 x336.length c94), (1, .int .i64 p97), (2, .int .i64 p98), (7, .int .i64 x211), (8, .int .i64 (IntKind.i64.wrap (x105 + 1)))]) rfl ?_
                      exact ih107 _ (by omega) _ _ _ ⟨x336, s339, x211, IntKind.i64.wrap (x105 + 1), rfl, rfl, H, hle, by omega, ho340⟩
                  · rw [if_neg h345] at H
                    refine at_cond_f rfl (decide_eq_false h345) ?_
                    refine at_exit ?_
                    refine at_then_exit ?_
                    refine at_then_exit ?_
                    refine at_in_hit ?_
                    refine at_in_norm ?_
                    refine at_thn ?_
                    refine at_reg [] [0, 1, 2, 7, 8] (L2 := [(0, .slice A93 x336.length c94), (1, .int .i64 p97), (2, .int .i64 p98), (7, .int .i64 x211), (8, .int .i64 (IntKind.i64.wrap (x105 + 1)))]) (obs := []) (by kernel_rfl) ?_ ?_
                    · intro w hs; exact trivial
                    refine at_thn ?_
                    refine at_keep [0, 1, 2, 7, 8] (L2 := [(0, .slice A93 x336.length c94), (1, .int .i64 p97), (2, .int .i64 p98), (7, .int .i64 x211), (8, .int .i64 (IntKind.i64.wrap (x105 + 1)))]) rfl ?_
                    exact ih107 _ (by omega) _ _ _ ⟨x336, s339, x211, IntKind.i64.wrap (x105 + 1), rfl, rfl, H, hle, by omega, ho340⟩
              · rw [if_neg h335] at H
                refine at_cond_f rfl (decide_eq_false h335) ?_
                refine at_skip ?_
                refine at_in_norm ?_
                refine at_thn ?_
                refine at_reg [] [0, 1, 2, 7, 8] (L2 := [(0, .slice A93 x328.length c94), (1, .int .i64 p97), (2, .int .i64 p98), (7, .int .i64 x211), (8, .int .i64 (IntKind.i64.wrap (x105 + 1)))]) (obs := []) (by kernel_rfl) ?_ ?_
                · intro w hs; exact trivial
                refine at_thn ?_
                refine at_keep [0, 1, 2, 7, 8] (L2 := [(0, .slice A93 x328.length c94), (1, .int .i64 p97), (2, .int .i64 p98), (7, .int .i64 x211), (8, .int .i64 (IntKind.i64.wrap (x105 + 1)))]) rfl ?_
                exact ih107 _ (by omega) _ _ _ ⟨x328, s331, x211, IntKind.i64.wrap (x105 + 1), rfl, rfl, H, hle, by omega, ho332⟩
            · intro Jn227
              refine at_seq ?_
              refine at_reg [] [0, 1, 2, 7, 8, 61] (L2 := [(0, .slice A93 ((x99.set x211.toNat (rdA [] x99 (IntKind.i64.wrap (x211 - 1)))).set (IntKind.i64.wrap (x211 - 1)).toNat (rdA [] x99 x211)).length c94), (1, .int .i64 p97), (2, .int .i64 p98), (7, .int .i64 x211), (8, .int .i64 x105), (61, .bool (decide ((IntKind.i64.wrap (x211 - p97)) ≥ 2)))]) (obs := []) (by kernel_rfl) ?_ ?_
              · intro w hs; exact trivial
              refine at_thn ?_
              by_cases h362 : (IntKind.i64.wrap (x211 - p97)) ≥ 2
              · rw [if_pos h362] at H
                refine at_cond_t rfl (decide_eq_true h362) ?_
                refine at_seq ?_
                refine at_reg [] [0, 1, 2, 7, 8, 9] (L2 := [(0, .slice A93 ((x99.set x211.toNat (rdA [] x99 (IntKind.i64.wrap (x211 - 1)))).set (IntKind.i64.wrap (x211 - 1)).toNat (rdA [] x99 x211)).length c94), (1, .int .i64 p97), (2, .int .i64 p98), (7, .int .i64 x211), (8, .int .i64 x105), (9, .int .i64 (IntKind.i64.wrap (x211 - 1)))]) (obs := []) (by kernel_rfl) ?_ ?_
                · intro w hs; exact trivial
                refine at_thn ?_
                refine at_block ?_
                refine at_keep [0, 1, 2, 7, 8, 9] (L2 := [(0, .slice A93 ((x99.set x211.toNat (rdA [] x99 (IntKind.i64.wrap (x211 - 1)))).set (IntKind.i64.wrap (x211 - 1)).toNat (rdA [] x99 x211)).length c94), (1, .int .i64 p97), (2, .int .i64 p98), (7, .int .i64 x211), (8, .int .i64 x105), (9, .int .i64 (IntKind.i64.wrap (x211 - 1)))]) rfl ?_
                refine at_loop (fun k369 L I Ms => ∃ (x363 : List (List UInt8)) (s366 : Seg) (x368 : Int), L = [(0, .slice A93 x363.length c94), (1, .int .i64 p97), (2, .int .i64 p98), (7, .int .i64 x211), (8, .int .i64 x105), (9, .int .i64 x368)] ∧ Ms = (s366 :: Fs) ∧ slices_partialInsertionSortOrdered_string_l2 k369 x363 x368 p92 p97 p98 x105 x211 = some r ∧ ImmLe I0 I ∧ k369 ≤ k212 ∧ Own Kd.string 9 I A93 c94 x363 s366) ?_ ?_ k212 ⟨(x99.set x211.toNat (rdA [] x99 (IntKind.i64.wrap (x211 - 1)))).set (IntKind.i64.wrap (x211 - 1)).toNat (rdA [] x99 x211), s225, IntKind.i64.wrap (x211 - 1), rfl, rfl, H, hle, Nat.le_refl _, ho226⟩
                · rintro L I Ms ⟨_, _, _, rfl, rfl, H, _⟩; exact no_none H
                · clear H hle ho226
                  intro k369 ih370 L I Ms h_; obtain ⟨x363, s366, x368, hL_, hM_, H, hle, hk371, ho367⟩ := h_; rw [hL_, hM_]; clear hL_ hM_ L Ms
                  rw [slices_partialInsertionSortOrdered_string_l2] at H
                  refine at_seq ?_
                  refine at_seq ?_
                  refine at_reg [] [0, 1, 2, 7, 8, 9, 65] (L2 := [(0, .slice A93 x363.length c94), (1, .int .i64 p97), (2, .int .i64 p98), (7, .int .i64 x211), (8, .int .i64 x105), (9, .int .i64 x368), (65, .bool (decide (x368 ≥ 1)))]) (obs := []) (by kernel_rfl) ?_ ?_
                  · intro w hs; exact trivial
                  refine at_thn ?_
                  by_cases h372 : x368 ≥ 1
                  · rw [if_pos h372] at H
                    refine at_cond_t rfl (decide_eq_true h372) ?_
                    refine at_skip ?_
                    refine at_thn ?_
                    refine at_seq ?_
                    refine at_block ?_
                    refine at_seq ?_
                    refine at_seq ?_
                    obtain ⟨h373, H⟩ := ite_some H
                    obtain ⟨h374, H⟩ := ite_some H
                    obtain ⟨h375, H⟩ := ite_some H
                    obtain ⟨h376, H⟩ := ite_some H
                    refine at_x hmo (fun w => w.cell? ((A93.getD ad0).add (x368.toNat * 1)) = some (str (rdA [] x363 x368)) ∧ w.cell? ((A93.getD ad0).add ((IntKind.i64.wrap (x368 - 1)).toNat * 1)) = some (str (rdA [] x363 (IntKind.i64.wrap (x368 - 1))))) [] ?_
                    refine at_xseg [0, 1, 2, 3, 4, 5, 6, 7, 8] 2 (#[true, true, true, true, true, true, true, true, true, false, false]) rfl (by kernel_rfl) [(3, str (rdA [] x363 x368)), (8, str (rdA [] x363 (IntKind.i64.wrap (x368 - 1))))] [0, 1, 2, 7, 8, 9, 71, 76] (L2 := [(0, .slice A93 x363.length c94), (1, .int .i64 p97), (2, .int .i64 p98), (7, .int .i64 x211), (8, .int .i64 x105), (9, .int .i64 x368), (71, str (rdA [] x363 x368)), (76, str (rdA [] x363 (IntKind.i64.wrap (x368 - 1))))]) (obs := [fun _ => A93.isSome = true ∧ 0 ≤ x368 ∧ x368 < ((x363.length : Nat) : Int), fun w => w.cell? ((A93.getD ad0).add (x368.toNat * 1)) = some (str (rdA [] x363 x368)), fun _ => A93.isSome = true ∧ 0 ≤ (IntKind.i64.wrap (x368 - 1)) ∧ (IntKind.i64.wrap (x368 - 1)) < ((x363.length : Nat) : Int), fun w => w.cell? ((A93.getD ad0).add ((IntKind.i64.wrap (x368 - 1)).toNat * 1)) = some (str (rdA [] x363 (IntKind.i64.wrap (x368 - 1))))]) (by kernel_rfl) (by kernel_rfl) (by kernel_rfl) (.inr fun w hs => ⟨ho367.one [] x368 h373 h374 hs (k := 0) rfl, ho367.one [] (IntKind.i64.wrap (x368 - 1)) h375 h376 hs (k := 0) rfl⟩) (fun w hS => ⟨⟨ho367.ne x368 h373 h374, h373, h374⟩, hS.1, ⟨ho367.ne (IntKind.i64.wrap (x368 - 1)) h375 h376, h375, h376⟩, hS.2⟩) (fun w hs => ⟨⟨ho367.ne x368 h373 h374, h373, h374⟩, ho367.one [] x368 h373 h374 hs (k := 0) rfl, ⟨ho367.ne (IntKind.i64.wrap (x368 - 1)) h375 h376, h375, h376⟩, ho367.one [] (IntKind.i64.wrap (x368 - 1)) h375 h376 hs (k := 0) rfl⟩) ?_
                    refine at_x1 1 9 (#[true, true, true, true, true, true, true, true, true, true, false]) rfl (by kernel_rfl) (by kernel_rfl) rfl rfl ?_
                    obtain ⟨b8, H377, H⟩ := bind_some H
                    have hm_ := cmp_Less_string.calls (I0 := I) H377
                    refine eff_call rfl rfl ok24 rfl rfl (show Meets Try.prog 24 ([str (rdA [] x363 x368), str (rdA [] x363 (IntKind.i64.wrap (x368 - 1)))] : List Value).toArray _ [] _ from hm_) (Mr := (s366 :: Fs)) (List.Perm.refl _) (fun v378 J379 M380 hq381 hJ382 => ?_)
                    replace hle := hle.trans hJ382
                    replace ho367 := ho367.mono hJ382
                    obtain ⟨rfl, rfl⟩ := hq381
                    refine at_xS (fun w hs => ⟨ho367.one [] x368 h373 h374 hs (k := 0) rfl, ho367.one [] (IntKind.i64.wrap (x368 - 1)) h375 h376 hs (k := 0) rfl⟩) ?_
                    refine at_xseg [10] 0 (#[true, true, true, true, true, true, true, true, true, true, true]) rfl (by kernel_rfl) [] [0, 1, 2, 7, 8, 9, 78] (L2 := [(0, .slice A93 x363.length c94), (1, .int .i64 p97), (2, .int .i64 p98), (7, .int .i64 x211), (8, .int .i64 x105), (9, .int .i64 x368), (78, .bool (!b8))]) (obs := []) (by kernel_rfl) (by kernel_rfl) (by kernel_rfl) (.inr fun w hs => ⟨ho367.one [] x368 h373 h374 hs (k := 0) rfl, ho367.one [] (IntKind.i64.wrap (x368 - 1)) h375 h376 hs (k := 0) rfl⟩) (fun w hS => trivial) (fun w hs => trivial) ?_
                    refine at_xend (by kernel_rfl) ?_
                    refine at_thn ?_
                    by_cases h383 : b8 = true
                    · rw [if_pos h383] at H
                      refine at_cond_f rfl (not_ff (h383)) ?_
                      refine at_skip ?_
                      refine at_thn ?_
                      refine at_x hmo (fun w => w.cell? ((A93.getD ad0).add ((IntKind.i64.wrap (x368 - 1)).toNat * 1)) = some (str (rdA [] x363 (IntKind.i64.wrap (x368 - 1)))) ∧ w.cell? ((A93.getD ad0).add (x368.toNat * 1)) = some (str (rdA [] x363 x368))) [15, 17] ?_
                      refine at_xseg [0, 1, 2, 3, 4, 5, 6, 7, 8, 9, 10, 11, 12, 13, 14] 3 (#[true, true, true, true, true, true, true, true, true, true, true, true, true, true, true, false, false, false]) rfl (by kernel_rfl) [(9, str (rdA [] x363 (IntKind.i64.wrap (x368 - 1)))), (13, str (rdA [] x363 x368))] [0, 1, 2, 7, 8, 9, 81, 83, 88, 92, 93] (L2 := [(0, .slice A93 x363.length c94), (1, .int .i64 p97), (2, .int .i64 p98), (7, .int .i64 x211), (8, .int .i64 x105), (9, .int .i64 x368), (81, .slice A93 x363.length c94), (83, .int .i64 (IntKind.i64.wrap (x368 - 1))), (88, str (rdA [] x363 (IntKind.i64.wrap (x368 - 1)))), (92, str (rdA [] x363 x368)), (93, .pointer (some ((A93.getD ad0).add (x368.toNat * 1))))]) (obs := [fun _ => A93.isSome = true ∧ 0 ≤ (IntKind.i64.wrap (x368 - 1)) ∧ (IntKind.i64.wrap (x368 - 1)) < ((x363.length : Nat) : Int), fun w => w.cell? ((A93.getD ad0).add ((IntKind.i64.wrap (x368 - 1)).toNat * 1)) = some (str (rdA [] x363 (IntKind.i64.wrap (x368 - 1)))), fun _ => A93.isSome = true ∧ 0 ≤ x368 ∧ x368 < ((x363.length : Nat) : Int), fun w => w.cell? ((A93.getD ad0).add (x368.toNat * 1)) = some (str (rdA [] x363 x368)), fun _ => A93.isSome = true ∧ 0 ≤ x368 ∧ x368 < ((x363.length : Nat) : Int)]) (by kernel_rfl) (by kernel_rfl) (by kernel_rfl) (.inr fun w hs => ⟨ho367.one [] (IntKind.i64.wrap (x368 - 1)) h375 h376 hs (k := 0) rfl, ho367.one [] x368 h373 h374 hs (k := 0) rfl⟩) (fun w hS => ⟨⟨ho367.ne (IntKind.i64.wrap (x368 - 1)) h375 h376, h375, h376⟩, hS.1, ⟨ho367.ne x368 h373 h374, h373, h374⟩, hS.2, ⟨ho367.ne x368 h373 h374, h373, h374⟩⟩) (fun w hs => ⟨⟨ho367.ne (IntKind.i64.wrap (x368 - 1)) h375 h376, h375, h376⟩, ho367.one [] (IntKind.i64.wrap (x368 - 1)) h375 h376 hs (k := 0) rfl, ⟨ho367.ne x368 h373 h374, h373, h374⟩, ho367.one [] x368 h373 h374 hs (k := 0) rfl, ⟨ho367.ne x368 h373 h374, h373, h374⟩⟩) ?_
                      refine at_x1 2 15 (#[true, true, true, true, true, true, true, true, true, true, true, true, true, true, true, true, false, false]) rfl (by kernel_rfl) (by kernel_rfl) rfl rfl ?_
                      refine eff_storeOwn (K := Kd.string) (u := rdA [] x363 (IntKind.i64.wrap (x368 - 1))) 0 0 [] x368 rfl rfl rfl rfl ho367 rfl h373 h374 (add0 _).symm rfl (Nat.le_of_ble_eq_true (by kernel_rfl)) rfl (by rintro cs_ rfl; rfl) (fun s384 ho385 => ?_)
                      refine at_eqL2 (L1 := [(0, .slice A93 x363.length c94), (1, .int .i64 p97), (2, .int .i64 p98), (7, .int .i64 x211), (8, .int .i64 x105), (9, .int .i64 x368), (81, .slice A93 x363.length c94), (83, .int .i64 (IntKind.i64.wrap (x368 - 1))), (88, str (rdA [] x363 (IntKind.i64.wrap (x368 - 1)))), (92, str (rdA [] x363 x368)), (93, .pointer (some ((A93.getD ad0).add (x368.toNat * 1))))]) (L2 := [(0, .slice A93 (x363.set x368.toNat (rdA [] x363 (IntKind.i64.wrap (x368 - 1)))).length c94), (1, .int .i64 p97), (2, .int .i64 p98), (7, .int .i64 x211), (8, .int .i64 x105), (9, .int .i64 x368), (81, .slice A93 (x363.set x368.toNat (rdA [] x363 (IntKind.i64.wrap (x368 - 1)))).length c94), (83, .int .i64 (IntKind.i64.wrap (x368 - 1))), (88, str (rdA [] x363 (IntKind.i64.wrap (x368 - 1)))), (92, str (rdA [] x363 x368)), (93, .pointer (some ((A93.getD ad0).add (x368.toNat * 1))))]) rfl (by simp only [List.length_set]) ?_
                      refine at_xX (by kernel_rfl) ?_
                      obtain ⟨h386, H⟩ := ite_some H
                      refine at_xseg [16] 1 (#[true, true, true, true, true, true, true, true, true, true, true, true, true, true, true, true, true, false]) rfl (by kernel_rfl) [] [0, 1, 2, 7, 8, 9, 92, 94] (L2 := [(0, .slice A93 (x363.set x368.toNat (rdA [] x363 (IntKind.i64.wrap (x368 - 1)))).length c94), (1, .int .i64 p97), (2, .int .i64 p98), (7, .int .i64 x211), (8, .int .i64 x105), (9, .int .i64 x368), (92, str (rdA [] x363 x368)), (94, .pointer (some ((A93.getD ad0).add ((IntKind.i64.wrap (x368 - 1)).toNat * 1))))]) (obs := [fun _ => A93.isSome = true ∧ 0 ≤ (IntKind.i64.wrap (x368 - 1)) ∧ (IntKind.i64.wrap (x368 - 1)) < (((x363.set x368.toNat (rdA [] x363 (IntKind.i64.wrap (x368 - 1)))).length : Nat) : Int)]) (by kernel_rfl) (by kernel_rfl) (by kernel_rfl) (.inl (by kernel_rfl)) (fun w hS => ⟨ho385.ne (IntKind.i64.wrap (x368 - 1)) h375 h386, h375, h386⟩) (fun w hs => ⟨ho385.ne (IntKind.i64.wrap (x368 - 1)) h375 h386, h375, h386⟩) ?_
                      refine at_x1 0 17 (#[true, true, true, true, true, true, true, true, true, true, true, true, true, true, true, true, true, true]) rfl (by kernel_rfl) (by kernel_rfl) rfl rfl ?_
                      refine eff_storeOwn (K := Kd.string) (u := rdA [] x363 x368) 0 0 [] (IntKind.i64.wrap (x368 - 1)) rfl rfl rfl rfl ho385 rfl h375 h386 (add0 _).symm rfl (Nat.le_of_ble_eq_true (by kernel_rfl)) rfl (by rintro cs_ rfl; rfl) (fun s387 ho388 => ?_)
                      refine at_eqL2 (L1 := [(0, .slice A93 (x363.set x368.toNat (rdA [] x363 (IntKind.i64.wrap (x368 - 1)))).length c94), (1, .int .i64 p97), (2, .int .i64 p98), (7, .int .i64 x211), (8, .int .i64 x105), (9, .int .i64 x368), (92, str (rdA [] x363 x368)), (94, .pointer (some ((A93.getD ad0).add ((IntKind.i64.wrap (x368 - 1)).toNat * 1))))]) (L2 := [(0, .slice A93 ((x363.set x368.toNat (rdA [] x363 (IntKind.i64.wrap (x368 - 1)))).set (IntKind.i64.wrap (x368 - 1)).toNat (rdA [] x363 x368)).length c94), (1, .int .i64 p97), (2, .int .i64 p98), (7, .int .i64 x211), (8, .int .i64 x105), (9, .int .i64 x368), (92, str (rdA [] x363 x368)), (94, .pointer (some ((A93.getD ad0).add ((IntKind.i64.wrap (x368 - 1)).toNat * 1))))]) rfl (by simp only [List.length_set]) ?_
                      refine at_xX (by kernel_rfl) ?_
                      refine at_xend (by kernel_rfl) ?_
                      refine at_in_norm ?_
                      refine at_thn ?_
                      refine at_reg [] [0, 1, 2, 7, 8, 9] (L2 := [(0, .slice A93 ((x363.set x368.toNat (rdA [] x363 (IntKind.i64.wrap (x368 - 1)))).set (IntKind.i64.wrap (x368 - 1)).toNat (rdA [] x363 x368)).length c94), (1, .int .i64 p97), (2, .int .i64 p98), (7, .int .i64 x211), (8, .int .i64 x105), (9, .int .i64 (IntKind.i64.wrap (x368 - 1)))]) (obs := []) (by kernel_rfl) ?_ ?_
                      · intro w hs; exact trivial
                      refine at_thn ?_
                      refine at_keep [0, 1, 2, 7, 8, 9] (L2 := [(0, .slice A93 ((x363.set x368.toNat (rdA [] x363 (IntKind.i64.wrap (x368 - 1)))).set (IntKind.i64.wrap (x368 - 1)).toNat (rdA [] x363 x368)).length c94), (1, .int .i64 p97), (2, .int .i64 p98), (7, .int .i64 x211), (8, .int .i64 x105), (9, .int .i64 (IntKind.i64.wrap (x368 - 1)))]) rfl ?_
                      exact ih370 _ (by omega) _ _ _ ⟨(x363.set x368.toNat (rdA [] x363 (IntKind.i64.wrap (x368 - 1)))).set (IntKind.i64.wrap (x368 - 1)).toNat (rdA [] x363 x368), s387, IntKind.i64.wrap (x368 - 1), rfl, rfl, H, hle, by omega, ho388⟩
                    · rw [if_neg h383] at H
                      refine at_cond_t rfl (not_tt (ff_of h383)) ?_
                      refine at_exit ?_
                      refine at_then_exit ?_
                      refine at_in_miss (by decide) ?_
                      refine at_then_exit ?_
                      refine at_then_exit ?_
                      refine at_in_hit ?_
                      refine at_thn ?_
                      refine at_keep [0, 1, 2, 7, 8] (L2 := [(0, .slice A93 x363.length c94), (1, .int .i64 p97), (2, .int .i64 p98), (7, .int .i64 x211), (8, .int .i64 x105)]) rfl ?_
                      exact Jn227 _ _ _ ⟨_, x363, s366, rfl, rfl, H, hle, by omega, ho367⟩
                  · rw [if_neg h372] at H
                    refine at_cond_f rfl (decide_eq_false h372) ?_
                    refine at_exit ?_
                    refine at_then_exit ?_
                    refine at_then_exit ?_
                    refine at_in_hit ?_
                    refine at_thn ?_
                    refine at_keep [0, 1, 2, 7, 8] (L2 := [(0, .slice A93 x363.length c94), (1, .int .i64 p97), (2, .int .i64 p98), (7, .int .i64 x211), (8, .int .i64 x105)]) rfl ?_
                    exact Jn227 _ _ _ ⟨_, x363, s366, rfl, rfl, H, hle, by omega, ho367⟩
              · rw [if_neg h362] at H
                refine at_cond_f rfl (decide_eq_false h362) ?_
                refine at_skip ?_
                refine at_thn ?_
                refine at_keep [0, 1, 2, 7, 8] (L2 := [(0, .slice A93 ((x99.set x211.toNat (rdA [] x99 (IntKind.i64.wrap (x211 - 1)))).set (IntKind.i64.wrap (x211 - 1)).toNat (rdA [] x99 x211)).length c94), (1, .int .i64 p97), (2, .int .i64 p98), (7, .int .i64 x211), (8, .int .i64 x105)]) rfl ?_
                exact Jn227 _ _ _ ⟨_, (x99.set x211.toNat (rdA [] x99 (IntKind.i64.wrap (x211 - 1)))).set (IntKind.i64.wrap (x211 - 1)).toNat (rdA [] x99 x211), s225, rfl, rfl, H, hle, by omega, ho226⟩
      · intro Jn110
        refine at_block ?_
        refine at_keep [0, 1, 2, 7, 8] (L2 := [(0, .slice A93 x99.length c94), (1, .int .i64 p97), (2, .int .i64 p98), (7, .int .i64 x104), (8, .int .i64 x105)]) rfl ?_
        refine at_loop (fun k390 L I Ms => ∃ (x389 : Int), L = [(0, .slice A93 x99.length c94), (1, .int .i64 p97), (2, .int .i64 p98), (7, .int .i64 x389), (8, .int .i64 x105)] ∧ Ms = (s102 :: Fs) ∧ slices_partialInsertionSortOrdered_string_l3 k390 x389 p92 p97 p98 x99 x105 = some r ∧ ImmLe I0 I ∧ k390 ≤ k106 ∧ Own Kd.string 9 I A93 c94 x99 s102) ?_ ?_ k106 ⟨x104, rfl, rfl, H, hle, Nat.le_refl _, ho103⟩
        · rintro L I Ms ⟨_, rfl, rfl, H, _⟩; exact no_none H
        · clear H hle ho103
          intro k390 ih391 L I Ms h_; obtain ⟨x389, hL_, hM_, H, hle, hk392, ho103⟩ := h_; rw [hL_, hM_]; clear hL_ hM_ L Ms
          rw [slices_partialInsertionSortOrdered_string_l3] at H
          refine at_seq ?_
          refine at_seq ?_
          by_cases h393 : x389 < p98
          · rw [if_pos h393] at H
            obtain ⟨h394, H⟩ := ite_some H
            obtain ⟨h395, H⟩ := ite_some H
            obtain ⟨h396, H⟩ := ite_some H
            obtain ⟨h397, H⟩ := ite_some H
            refine at_x hmo (fun w => w.cell? ((A93.getD ad0).add (x389.toNat * 1)) = some (str (rdA [] x99 x389)) ∧ w.cell? ((A93.getD ad0).add ((IntKind.i64.wrap (x389 - 1)).toNat * 1)) = some (str (rdA [] x99 (IntKind.i64.wrap (x389 - 1))))) [] ?_
            refine at_xseg [0, 1, 2, 3, 4, 5, 6, 7, 8, 9, 10, 11, 12] 3 (#[true, true, true, true, true, true, true, true, true, true, true, true, true, false, false, false]) rfl (by kernel_rfl) [(3, .bool true), (7, str (rdA [] x99 x389)), (12, str (rdA [] x99 (IntKind.i64.wrap (x389 - 1))))] [0, 1, 2, 7, 8, 20, 24, 29] (L2 := [(0, .slice A93 x99.length c94), (1, .int .i64 p97), (2, .int .i64 p98), (7, .int .i64 x389), (8, .int .i64 x105), (20, .bool true), (24, str (rdA [] x99 x389)), (29, str (rdA [] x99 (IntKind.i64.wrap (x389 - 1))))]) (obs := [fun _ => (.bool (decide (x389 < p98)) : Value) = .bool true, fun _ => A93.isSome = true ∧ 0 ≤ x389 ∧ x389 < ((x99.length : Nat) : Int), fun w => w.cell? ((A93.getD ad0).add (x389.toNat * 1)) = some (str (rdA [] x99 x389)), fun _ => A93.isSome = true ∧ 0 ≤ (IntKind.i64.wrap (x389 - 1)) ∧ (IntKind.i64.wrap (x389 - 1)) < ((x99.length : Nat) : Int), fun w => w.cell? ((A93.getD ad0).add ((IntKind.i64.wrap (x389 - 1)).toNat * 1)) = some (str (rdA [] x99 (IntKind.i64.wrap (x389 - 1))))]) (by kernel_rfl) (by kernel_rfl) (by kernel_rfl) (.inr fun w hs => ⟨ho103.one [] x389 h394 h395 hs (k := 0) rfl, ho103.one [] (IntKind.i64.wrap (x389 - 1)) h396 h397 hs (k := 0) rfl⟩) (fun w hS => ⟨congrArg Value.bool (decide_eq_true h393), ⟨ho103.ne x389 h394 h395, h394, h395⟩, hS.1, ⟨ho103.ne (IntKind.i64.wrap (x389 - 1)) h396 h397, h396, h397⟩, hS.2⟩) (fun w hs => ⟨congrArg Value.bool (decide_eq_true h393), ⟨ho103.ne x389 h394 h395, h394, h395⟩, ho103.one [] x389 h394 h395 hs (k := 0) rfl, ⟨ho103.ne (IntKind.i64.wrap (x389 - 1)) h396 h397, h396, h397⟩, ho103.one [] (IntKind.i64.wrap (x389 - 1)) h396 h397 hs (k := 0) rfl⟩) ?_
            refine at_x1 2 13 (#[true, true, true, true, true, true, true, true, true, true, true, true, true, true, false, false]) rfl (by kernel_rfl) (by kernel_rfl) rfl rfl ?_
            obtain ⟨b9, H398, H⟩ := bind_some H
            have hm_ := cmp_Less_string.calls (I0 := I) H398
            refine eff_call rfl rfl ok24 rfl rfl (show Meets Try.prog 24 ([str (rdA [] x99 x389), str (rdA [] x99 (IntKind.i64.wrap (x389 - 1)))] : List Value).toArray _ [] _ from hm_) (Mr := (s102 :: Fs)) (List.Perm.refl _) (fun v399 J400 M401 hq402 hJ403 => ?_)
            replace hle := hle.trans hJ403
            replace ho103 := ho103.mono hJ403
            obtain ⟨rfl, rfl⟩ := hq402
            refine at_xS (fun w hs => ⟨ho103.one [] x389 h394 h395 hs (k := 0) rfl, ho103.one [] (IntKind.i64.wrap (x389 - 1)) h396 h397 hs (k := 0) rfl⟩) ?_
            refine at_xseg [14, 15] 0 (#[true, true, true, true, true, true, true, true, true, true, true, true, true, true, true, true]) rfl (by kernel_rfl) [] [0, 1, 2, 7, 8, 32] (L2 := [(0, .slice A93 x99.length c94), (1, .int .i64 p97), (2, .int .i64 p98), (7, .int .i64 x389), (8, .int .i64 x105), (32, .bool (!b9))]) (obs := []) (by kernel_rfl) (by kernel_rfl) (by kernel_rfl) (.inr fun w hs => ⟨ho103.one [] x389 h394 h395 hs (k := 0) rfl, ho103.one [] (IntKind.i64.wrap (x389 - 1)) h396 h397 hs (k := 0) rfl⟩) (fun w hS => trivial) (fun w hs => trivial) ?_
            refine at_xend (by kernel_rfl) ?_
            refine at_thn ?_
            by_cases h404 : b9 = true
            · rw [if_pos h404] at H
              refine at_cond_f rfl (not_ff (h404)) ?_
              refine at_exit ?_
              refine at_then_exit ?_
              refine at_then_exit ?_
              refine at_in_hit ?_
              refine at_thn ?_
              refine at_keep [0, 1, 2, 7, 8] (L2 := [(0, .slice A93 x99.length c94), (1, .int .i64 p97), (2, .int .i64 p98), (7, .int .i64 x389), (8, .int .i64 x105)]) rfl ?_
              exact Jn110 _ _ _ ⟨_, x389, rfl, rfl, H, hle, by omega, ho103⟩
            · rw [if_neg h404] at H
              refine at_cond_t rfl (not_tt (ff_of h404)) ?_
              refine at_skip ?_
              refine at_thn ?_
              refine at_block ?_
              refine at_reg [] [0, 1, 2, 7, 8] (L2 := [(0, .slice A93 x99.length c94), (1, .int .i64 p97), (2, .int .i64 p98), (7, .int .i64 (IntKind.i64.wrap (x389 + 1))), (8, .int .i64 x105)]) (obs := []) (by kernel_rfl) ?_ ?_
              · intro w hs; exact trivial
              refine at_in_norm ?_
              refine at_thn ?_
              refine at_keep [0, 1, 2, 7, 8] (L2 := [(0, .slice A93 x99.length c94), (1, .int .i64 p97), (2, .int .i64 p98), (7, .int .i64 (IntKind.i64.wrap (x389 + 1))), (8, .int .i64 x105)]) rfl ?_
              exact ih391 _ (by omega) _ _ _ ⟨IntKind.i64.wrap (x389 + 1), rfl, rfl, H, hle, by omega, ho103⟩
          · rw [if_neg h393] at H
            refine at_x hmo (fun w => True) [] ?_
            refine at_xseg [0, 1, 2, 3, 4, 5, 6, 7, 8, 9, 10, 11, 12] 3 (#[true, true, true, true, true, true, true, true, true, true, true, true, true, false, false, false]) rfl (by kernel_rfl) [(3, .bool false)] [0, 1, 2, 7, 8, 20, 24, 29] (L2 := [(0, .slice A93 x99.length c94), (1, .int .i64 p97), (2, .int .i64 p98), (7, .int .i64 x389), (8, .int .i64 x105), (20, .bool false), (24, undef), (29, undef)]) (obs := [fun _ => (.bool (decide (x389 < p98)) : Value) = .bool false]) (by kernel_rfl) (by kernel_rfl) (by kernel_rfl) (.inr fun w hs => trivial) (fun w hS => congrArg Value.bool (decide_eq_false h393)) (fun w hs => congrArg Value.bool (decide_eq_false h393)) ?_
            refine at_xseg [13, 14, 15] 0 (#[true, true, true, true, true, true, true, true, true, true, true, true, true, true, true, true]) rfl (by kernel_rfl) [] [0, 1, 2, 7, 8, 32] (L2 := [(0, .slice A93 x99.length c94), (1, .int .i64 p97), (2, .int .i64 p98), (7, .int .i64 x389), (8, .int .i64 x105), (32, .bool false)]) (obs := []) (by kernel_rfl) (by kernel_rfl) (by kernel_rfl) (.inr fun w hs => trivial) (fun w hS => trivial) (fun w hs => trivial) ?_
            refine at_xend (by kernel_rfl) ?_
            refine at_thn ?_
            refine at_cond_f rfl (rfl) ?_
            refine at_exit ?_
            refine at_then_exit ?_
            refine at_then_exit ?_
            refine at_in_hit ?_
            refine at_thn ?_
            refine at_keep [0, 1, 2, 7, 8] (L2 := [(0, .slice A93 x99.length c94), (1, .int .i64 p97), (2, .int .i64 p98), (7, .int .i64 x389), (8, .int .i64 x105)]) rfl ?_
            exact Jn110 _ _ _ ⟨_, x389, rfl, rfl, H, hle, by omega, ho103⟩
    · rw [if_neg h109] at H
      refine at_cond_f rfl (decide_eq_false h109) ?_
      refine at_exit ?_
      refine at_then_exit ?_
      refine at_then_exit ?_
      refine at_in_hit ?_
      refine at_thn ?_
      refine at_seq ?_
      refine at_reg [] [0, 6] (L2 := [(0, .slice A93 x99.length c94), (6, .bool false)]) (obs := []) (by kernel_rfl) ?_ ?_
      · intro w hs; exact trivial
      refine at_thn ?_
      refine at_ret ?_
      obtain ⟨h405, H⟩ := ite_some H
      obtain rfl := Option.some.inj H
      refine at_done (vs := [.bool false]) (obs := []) (.inl rfl) [.tmp 6] [] rfl (by kernel_rfl) (fun w hs => trivial) (fun w hs => ⟨_, _, [s102], rfl, ⟨s102, rfl, rfl, ho103, h405⟩, hle, hs⟩)
end Go.Proofs.Ytgdbigafcjaohaa
