import Derived.Test.YtgdbigafcjaohaaG6
namespace Go.Proofs.Ytgdbigafcjaohaa
open Go Eng
set_option linter.unusedVariables false
set_option linter.unusedSimpArgs false
/-! ### slices.partitionOrdered[string]: function 26 -/
mutual
def slices_partitionOrdered_string_l4 : Nat → Int → (List (List UInt8)) → Int → Int → Int → Option (Int × Bool × (List (List UInt8)))
  | 0, _, _, _, _, _ => none
  | k + 1, x734, p99, p104, p105, p106 => if x734 ≤ (IntKind.i64.wrap (p105 - 1)) then (if 0 ≤ x734 then (if x734 < (((p99.set p104.toNat (rdA [] p99 p106)).set p106.toNat (rdA [] p99 p104)).length : Int) then (if p104 < (((p99.set p104.toNat (rdA [] p99 p106)).set p106.toNat (rdA [] p99 p104)).length : Int) then ((cmp_Less_string (rdA [] ((p99.set p104.toNat (rdA [] p99 p106)).set p106.toNat (rdA [] p99 p104)) x734) (rdA [] ((p99.set p104.toNat (rdA [] p99 p106)).set p106.toNat (rdA [] p99 p104)) p104)).bind fun b10 => (if b10 = true then (slices_partitionOrdered_string_l4 k (IntKind.i64.wrap (x734 + 1)) p99 p104 p105 p106) else (slices_partitionOrdered_string_j0 k x734 p99 p104 p105 p106))) else none) else none) else none) else (slices_partitionOrdered_string_j0 k x734 p99 p104 p105 p106)
def slices_partitionOrdered_string_j0 : Nat → Int → (List (List UInt8)) → Int → Int → Int → Option (Int × Bool × (List (List UInt8)))
  | 0, _, _, _, _, _ => none
  | k + 1, x217, p99, p104, p105, p106 => slices_partitionOrdered_string_l3 k (IntKind.i64.wrap (p105 - 1)) p99 p104 p106 x217
def slices_partitionOrdered_string_l3 : Nat → Int → (List (List UInt8)) → Int → Int → Int → Option (Int × Bool × (List (List UInt8)))
  | 0, _, _, _, _, _ => none
  | k + 1, x719, p99, p104, p106, x217 => if x217 ≤ x719 then (if 0 ≤ x719 then (if x719 < (((p99.set p104.toNat (rdA [] p99 p106)).set p106.toNat (rdA [] p99 p104)).length : Int) then (if p104 < (((p99.set p104.toNat (rdA [] p99 p106)).set p106.toNat (rdA [] p99 p104)).length : Int) then ((cmp_Less_string (rdA [] ((p99.set p104.toNat (rdA [] p99 p106)).set p106.toNat (rdA [] p99 p104)) x719) (rdA [] ((p99.set p104.toNat (rdA [] p99 p106)).set p106.toNat (rdA [] p99 p104)) p104)).bind fun b9 => (if b9 = true then (slices_partitionOrdered_string_j1 k x719 p99 p104 p106 x217) else (slices_partitionOrdered_string_l3 k (IntKind.i64.wrap (x719 - 1)) p99 p104 p106 x217))) else none) else none) else none) else (slices_partitionOrdered_string_j1 k x719 p99 p104 p106 x217)
def slices_partitionOrdered_string_j1 : Nat → Int → (List (List UInt8)) → Int → Int → Int → Option (Int × Bool × (List (List UInt8)))
  | 0, _, _, _, _, _ => none
  | k + 1, x321, p99, p104, p106, x217 => if x217 > x321 then (if p104 < (((p99.set p104.toNat (rdA [] p99 p106)).set p106.toNat (rdA [] p99 p104)).length : Int) then (if 0 ≤ x321 then (if x321 < (((p99.set p104.toNat (rdA [] p99 p106)).set p106.toNat (rdA [] p99 p104)).length : Int) then (if p104 < ((((p99.set p104.toNat (rdA [] p99 p106)).set p106.toNat (rdA [] p99 p104)).set x321.toNat (rdA [] ((p99.set p104.toNat (rdA [] p99 p106)).set p106.toNat (rdA [] p99 p104)) p104)).length : Int) then (if ((((p99.set p104.toNat (rdA [] p99 p106)).set p106.toNat (rdA [] p99 p104)).set x321.toNat (rdA [] ((p99.set p104.toNat (rdA [] p99 p106)).set p106.toNat (rdA [] p99 p104)) p104)).set p104.toNat (rdA [] ((p99.set p104.toNat (rdA [] p99 p106)).set p106.toNat (rdA [] p99 p104)) x321)).length = p99.length then (some (x321, true, (((p99.set p104.toNat (rdA [] p99 p106)).set p106.toNat (rdA [] p99 p104)).set x321.toNat (rdA [] ((p99.set p104.toNat (rdA [] p99 p106)).set p106.toNat (rdA [] p99 p104)) p104)).set p104.toNat (rdA [] ((p99.set p104.toNat (rdA [] p99 p106)).set p106.toNat (rdA [] p99 p104)) x321))) else none) else none) else none) else none) else none) else (if 0 ≤ x321 then (if x321 < (((p99.set p104.toNat (rdA [] p99 p106)).set p106.toNat (rdA [] p99 p104)).length : Int) then (if 0 ≤ x217 then (if x217 < (((p99.set p104.toNat (rdA [] p99 p106)).set p106.toNat (rdA [] p99 p104)).length : Int) then (if x321 < ((((p99.set p104.toNat (rdA [] p99 p106)).set p106.toNat (rdA [] p99 p104)).set x217.toNat (rdA [] ((p99.set p104.toNat (rdA [] p99 p106)).set p106.toNat (rdA [] p99 p104)) x321)).length : Int) then (slices_partitionOrdered_string_l0 k ((((p99.set p104.toNat (rdA [] p99 p106)).set p106.toNat (rdA [] p99 p104)).set x217.toNat (rdA [] ((p99.set p104.toNat (rdA [] p99 p106)).set p106.toNat (rdA [] p99 p104)) x321)).set x321.toNat (rdA [] ((p99.set p104.toNat (rdA [] p99 p106)).set p106.toNat (rdA [] p99 p104)) x217)) (IntKind.i64.wrap (x217 + 1)) (IntKind.i64.wrap (x321 - 1)) p99 p104) else none) else none) else none) else none) else none)
def slices_partitionOrdered_string_l0 : Nat → (List (List UInt8)) → Int → Int → (List (List UInt8)) → Int → Option (Int × Bool × (List (List UInt8)))
  | 0, _, _, _, _, _ => none
  | k + 1, x461, x466, x467, p99, p104 => slices_partitionOrdered_string_l2 k x466 p99 p104 x461 x467
def slices_partitionOrdered_string_l2 : Nat → Int → (List (List UInt8)) → Int → (List (List UInt8)) → Int → Option (Int × Bool × (List (List UInt8)))
  | 0, _, _, _, _, _ => none
  | k + 1, x704, p99, p104, x461, x467 => if x704 ≤ x467 then (if 0 ≤ x704 then (if x704 < (x461.length : Int) then (if p104 < (x461.length : Int) then ((cmp_Less_string (rdA [] x461 x704) (rdA [] x461 p104)).bind fun b8 => (if b8 = true then (slices_partitionOrdered_string_l2 k (IntKind.i64.wrap (x704 + 1)) p99 p104 x461 x467) else (slices_partitionOrdered_string_j3 k x704 p99 p104 x461 x467))) else none) else none) else none) else (slices_partitionOrdered_string_j3 k x704 p99 p104 x461 x467)
def slices_partitionOrdered_string_j3 : Nat → Int → (List (List UInt8)) → Int → (List (List UInt8)) → Int → Option (Int × Bool × (List (List UInt8)))
  | 0, _, _, _, _, _ => none
  | k + 1, x572, p99, p104, x461, x467 => slices_partitionOrdered_string_l1 k x467 p99 p104 x461 x572
def slices_partitionOrdered_string_l1 : Nat → Int → (List (List UInt8)) → Int → (List (List UInt8)) → Int → Option (Int × Bool × (List (List UInt8)))
  | 0, _, _, _, _, _ => none
  | k + 1, x689, p99, p104, x461, x572 => if x572 ≤ x689 then (if 0 ≤ x689 then (if x689 < (x461.length : Int) then (if p104 < (x461.length : Int) then ((cmp_Less_string (rdA [] x461 x689) (rdA [] x461 p104)).bind fun b7 => (if b7 = true then (slices_partitionOrdered_string_j4 k x689 p99 p104 x461 x572) else (slices_partitionOrdered_string_l1 k (IntKind.i64.wrap (x689 - 1)) p99 p104 x461 x572))) else none) else none) else none) else (slices_partitionOrdered_string_j4 k x689 p99 p104 x461 x572)
def slices_partitionOrdered_string_j4 : Nat → Int → (List (List UInt8)) → Int → (List (List UInt8)) → Int → Option (Int × Bool × (List (List UInt8)))
  | 0, _, _, _, _, _ => none
  | k + 1, x676, p99, p104, x461, x572 => if x572 > x676 then (slices_partitionOrdered_string_j2 k x461 x676 p99 p104) else (if 0 ≤ x676 then (if x676 < (x461.length : Int) then (if 0 ≤ x572 then (if x572 < (x461.length : Int) then (if x676 < ((x461.set x572.toNat (rdA [] x461 x676)).length : Int) then (slices_partitionOrdered_string_l0 k ((x461.set x572.toNat (rdA [] x461 x676)).set x676.toNat (rdA [] x461 x572)) (IntKind.i64.wrap (x572 + 1)) (IntKind.i64.wrap (x676 - 1)) p99 p104) else none) else none) else none) else none) else none)
def slices_partitionOrdered_string_j2 : Nat → (List (List UInt8)) → Int → (List (List UInt8)) → Int → Option (Int × Bool × (List (List UInt8)))
  | 0, _, _, _, _ => none
  | k + 1, x444, x449, p99, p104 => if p104 < (x444.length : Int) then (if 0 ≤ x449 then (if x449 < (x444.length : Int) then (if p104 < ((x444.set x449.toNat (rdA [] x444 p104)).length : Int) then (if ((x444.set x449.toNat (rdA [] x444 p104)).set p104.toNat (rdA [] x444 x449)).length = p99.length then (some (x449, false, (x444.set x449.toNat (rdA [] x444 p104)).set p104.toNat (rdA [] x444 x449))) else none) else none) else none) else none) else none
end
def slices_partitionOrdered_string (k : Nat) (p99 : List (List UInt8)) (p104 : Int) (p105 : Int) (p106 : Int) : Option (Int × Bool × (List (List UInt8))) := if 0 ≤ p106 then (if p106 < (p99.length : Int) then (if 0 ≤ p104 then (if p104 < (p99.length : Int) then (if p106 < ((p99.set p104.toNat (rdA [] p99 p106)).length : Int) then (slices_partitionOrdered_string_l4 k (IntKind.i64.wrap (p104 + 1)) p99 p104 p105 p106) else none) else none) else none) else none) else none
set_option maxHeartbeats 4000000 in
set_option maxRecDepth 100000 in
theorem slices_partitionOrdered_string.calls {k : Nat} {p99 : List (List UInt8)} {p104 : Int} {p105 : Int} {p106 : Int} {r : Int × Bool × (List (List UInt8))} {I0 : Imm} {A100 : Option Addr} {c101 : Nat} {s102 : Seg} (H : slices_partitionOrdered_string k p99 p104 p105 p106 = some r) (ho103 : Own Kd.string 9 I0 A100 c101 p99 s102) :
    Meets Try.prog 26 ([.slice A100 p99.length c101, .int .i64 p104, .int .i64 p105, .int .i64 p106] : List Value).toArray I0 [s102] (fun v J M => ∃ (s_1 : Seg), v = .tuple #[.int .i64 r.1, .bool r.2.1] ∧ M = [s_1] ∧ Own Kd.string 9 J A100 c101 r.2.2 s_1 ∧ r.2.2.length = p99.length) := by
  have hle := ImmLe.refl I0
  unfold slices_partitionOrdered_string at H
  refine fn_intro (fn := Try.f26) 168 Try.func26 rfl rfl rfl (fun E Fs => ?_)
  refine at_seq ?_
  refine at_reg [] [0, 1, 2, 3] (L2 := [(0, .slice A100 p99.length c101), (1, .int .i64 p104), (2, .int .i64 p105), (3, .int .i64 p106)]) (obs := []) (by kernel_rfl) ?_ ?_
  · intro w hs; exact trivial
  refine at_thn ?_
  refine at_seq ?_
  obtain ⟨h107, H⟩ := ite_some H
  obtain ⟨h108, H⟩ := ite_some H
  obtain ⟨h109, H⟩ := ite_some H
  obtain ⟨h110, H⟩ := ite_some H
  refine at_x hmo (fun w => w.cell? ((A100.getD ad0).add (p106.toNat * 1)) = some (str (rdA [] p99 p106)) ∧ w.cell? ((A100.getD ad0).add (p104.toNat * 1)) = some (str (rdA [] p99 p104))) [13, 15] ?_
  refine at_xseg [0, 1, 2, 3, 4, 5, 6, 7, 8, 9, 10, 11, 12] 3 (#[true, true, true, true, true, true, true, true, true, true, true, true, true, false, false, false]) rfl (by kernel_rfl) [(7, str (rdA [] p99 p106)), (11, str (rdA [] p99 p104))] [0, 1, 2, 14, 15, 19, 23, 24] (L2 := [(0, .slice A100 p99.length c101), (1, .int .i64 p104), (2, .int .i64 p105), (14, .slice A100 p99.length c101), (15, .int .i64 p106), (19, str (rdA [] p99 p106)), (23, str (rdA [] p99 p104)), (24, .pointer (some ((A100.getD ad0).add (p104.toNat * 1))))]) (obs := [fun _ => A100.isSome = true ∧ 0 ≤ p106 ∧ p106 < ((p99.length : Nat) : Int), fun w => w.cell? ((A100.getD ad0).add (p106.toNat * 1)) = some (str (rdA [] p99 p106)), fun _ => A100.isSome = true ∧ 0 ≤ p104 ∧ p104 < ((p99.length : Nat) : Int), fun w => w.cell? ((A100.getD ad0).add (p104.toNat * 1)) = some (str (rdA [] p99 p104)), fun _ => A100.isSome = true ∧ 0 ≤ p104 ∧ p104 < ((p99.length : Nat) : Int)]) (by kernel_rfl) (by kernel_rfl) (by kernel_rfl) (.inr fun w hs => ⟨ho103.one [] p106 h107 h108 hs (k := 0) rfl, ho103.one [] p104 h109 h110 hs (k := 0) rfl⟩) (fun w hS => ⟨⟨ho103.ne p106 h107 h108, h107, h108⟩, hS.1, ⟨ho103.ne p104 h109 h110, h109, h110⟩, hS.2, ⟨ho103.ne p104 h109 h110, h109, h110⟩⟩) (fun w hs => ⟨⟨ho103.ne p106 h107 h108, h107, h108⟩, ho103.one [] p106 h107 h108 hs (k := 0) rfl, ⟨ho103.ne p104 h109 h110, h109, h110⟩, ho103.one [] p104 h109 h110 hs (k := 0) rfl, ⟨ho103.ne p104 h109 h110, h109, h110⟩⟩) ?_
  refine at_x1 2 13 (#[true, true, true, true, true, true, true, true, true, true, true, true, true, true, false, false]) rfl (by kernel_rfl) (by kernel_rfl) rfl rfl ?_
  refine eff_storeOwn (K := Kd.string) (u := rdA [] p99 p106) 0 0 [] p104 rfl rfl rfl rfl ho103 rfl h109 h110 (add0 _).symm rfl (Nat.le_of_ble_eq_true (by kernel_rfl)) rfl (by rintro cs_ rfl; rfl) (fun s111 ho112 => ?_)
  refine at_eqL2 (L1 := [(0, .slice A100 p99.length c101), (1, .int .i64 p104), (2, .int .i64 p105), (14, .slice A100 p99.length c101), (15, .int .i64 p106), (19, str (rdA [] p99 p106)), (23, str (rdA [] p99 p104)), (24, .pointer (some ((A100.getD ad0).add (p104.toNat * 1))))]) (L2 := [(0, .slice A100 (p99.set p104.toNat (rdA [] p99 p106)).length c101), (1, .int .i64 p104), (2, .int .i64 p105), (14, .slice A100 (p99.set p104.toNat (rdA [] p99 p106)).length c101), (15, .int .i64 p106), (19, str (rdA [] p99 p106)), (23, str (rdA [] p99 p104)), (24, .pointer (some ((A100.getD ad0).add (p104.toNat * 1))))]) rfl (by simp only [List.length_set]) ?_
  refine at_xX (by kernel_rfl) ?_
  obtain ⟨h113, H⟩ := ite_some H
  refine at_xseg [14] 1 (#[true, true, true, true, true, true, true, true, true, true, true, true, true, true, true, false]) rfl (by kernel_rfl) [] [0, 1, 2, 23, 25] (L2 := [(0, .slice A100 (p99.set p104.toNat (rdA [] p99 p106)).length c101), (1, .int .i64 p104), (2, .int .i64 p105), (23, str (rdA [] p99 p104)), (25, .pointer (some ((A100.getD ad0).add (p106.toNat * 1))))]) (obs := [fun _ => A100.isSome = true ∧ 0 ≤ p106 ∧ p106 < (((p99.set p104.toNat (rdA [] p99 p106)).length : Nat) : Int)]) (by kernel_rfl) (by kernel_rfl) (by kernel_rfl) (.inl (by kernel_rfl)) (fun w hS => ⟨ho112.ne p106 h107 h113, h107, h113⟩) (fun w hs => ⟨ho112.ne p106 h107 h113, h107, h113⟩) ?_
  refine at_x1 0 15 (#[true, true, true, true, true, true, true, true, true, true, true, true, true, true, true, true]) rfl (by kernel_rfl) (by kernel_rfl) rfl rfl ?_
  refine eff_storeOwn (K := Kd.string) (u := rdA [] p99 p104) 0 0 [] p106 rfl rfl rfl rfl ho112 rfl h107 h113 (add0 _).symm rfl (Nat.le_of_ble_eq_true (by kernel_rfl)) rfl (by rintro cs_ rfl; rfl) (fun s114 ho115 => ?_)
  refine at_eqL2 (L1 := [(0, .slice A100 (p99.set p104.toNat (rdA [] p99 p106)).length c101), (1, .int .i64 p104), (2, .int .i64 p105), (23, str (rdA [] p99 p104)), (25, .pointer (some ((A100.getD ad0).add (p106.toNat * 1))))]) (L2 := [(0, .slice A100 ((p99.set p104.toNat (rdA [] p99 p106)).set p106.toNat (rdA [] p99 p104)).length c101), (1, .int .i64 p104), (2, .int .i64 p105), (23, str (rdA [] p99 p104)), (25, .pointer (some ((A100.getD ad0).add (p106.toNat * 1))))]) rfl (by simp only [List.length_set]) ?_
  refine at_xX (by kernel_rfl) ?_
  refine at_xend (by kernel_rfl) ?_
  refine at_thn ?_
  refine at_seq ?_
  refine at_reg [] [0, 1, 10, 11] (L2 := [(0, .slice A100 ((p99.set p104.toNat (rdA [] p99 p106)).set p106.toNat (rdA [] p99 p104)).length c101), (1, .int .i64 p104), (10, .int .i64 (IntKind.i64.wrap (p104 + 1))), (11, .int .i64 (IntKind.i64.wrap (p105 - 1)))]) (obs := []) (by kernel_rfl) ?_ ?_
  · intro w hs; exact trivial
  refine at_thn ?_
  refine at_join (fun L I Ms => ∃ (k218 : Nat), ∃ (x217 : Int), L = [(0, .slice A100 ((p99.set p104.toNat (rdA [] p99 p106)).set p106.toNat (rdA [] p99 p104)).length c101), (1, .int .i64 p104), (10, .int .i64 x217), (11, .int .i64 (IntKind.i64.wrap (p105 - 1)))] ∧ Ms = (s114 :: Fs) ∧ slices_partitionOrdered_string_j0 k218 x217 p99 p104 p105 p106 = some r ∧ ImmLe I0 I ∧ k218 ≤ k ∧ Own Kd.string 9 I A100 c101 ((p99.set p104.toNat (rdA [] p99 p106)).set p106.toNat (rdA [] p99 p104)) s114) ?_ ?_
  · clear H hle ho115
    intro L I Ms h_; obtain ⟨k218, x217, hL_, hM_, H, hle, hk219, ho115⟩ := h_; rw [hL_, hM_]; clear hL_ hM_ L Ms
    rcases k218 with _ | k218
    · exact (no_none H).elim
    rw [slices_partitionOrdered_string_j0] at H
    refine at_join (fun L I Ms => ∃ (k322 : Nat), ∃ (x321 : Int), L = [(0, .slice A100 ((p99.set p104.toNat (rdA [] p99 p106)).set p106.toNat (rdA [] p99 p104)).length c101), (1, .int .i64 p104), (10, .int .i64 x217), (11, .int .i64 x321)] ∧ Ms = (s114 :: Fs) ∧ slices_partitionOrdered_string_j1 k322 x321 p99 p104 p106 x217 = some r ∧ ImmLe I0 I ∧ k322 ≤ k218 ∧ Own Kd.string 9 I A100 c101 ((p99.set p104.toNat (rdA [] p99 p106)).set p106.toNat (rdA [] p99 p104)) s114) ?_ ?_
    · clear H hle ho115
      intro L I Ms h_; obtain ⟨k322, x321, hL_, hM_, H, hle, hk323, ho115⟩ := h_; rw [hL_, hM_]; clear hL_ hM_ L Ms
      rcases k322 with _ | k322
      · exact (no_none H).elim
      rw [slices_partitionOrdered_string_j1] at H
      refine at_seq ?_
      refine at_seq ?_
      refine at_reg [] [0, 1, 10, 11, 65] (L2 := [(0, .slice A100 ((p99.set p104.toNat (rdA [] p99 p106)).set p106.toNat (rdA [] p99 p104)).length c101), (1, .int .i64 p104), (10, .int .i64 x217), (11, .int .i64 x321), (65, .bool (decide (x217 > x321)))]) (obs := []) (by kernel_rfl) ?_ ?_
      · intro w hs; exact trivial
      refine at_thn ?_
      by_cases h324 : x217 > x321
      · rw [if_pos h324] at H
        refine at_cond_t rfl (decide_eq_true h324) ?_
        refine at_seq ?_
        obtain ⟨h325, H⟩ := ite_some H
        obtain ⟨h326, H⟩ := ite_some H
        obtain ⟨h327, H⟩ := ite_some H
        refine at_x hmo (fun w => w.cell? ((A100.getD ad0).add (p104.toNat * 1)) = some (str (rdA [] ((p99.set p104.toNat (rdA [] p99 p106)).set p106.toNat (rdA [] p99 p104)) p104)) ∧ w.cell? ((A100.getD ad0).add (x321.toNat * 1)) = some (str (rdA [] ((p99.set p104.toNat (rdA [] p99 p106)).set p106.toNat (rdA [] p99 p104)) x321))) [13, 15] ?_
        refine at_xseg [0, 1, 2, 3, 4, 5, 6, 7, 8, 9, 10, 11, 12] 3 (#[true, true, true, true, true, true, true, true, true, true, true, true, true, false, false, false]) rfl (by kernel_rfl) [(7, str (rdA [] ((p99.set p104.toNat (rdA [] p99 p106)).set p106.toNat (rdA [] p99 p104)) p104)), (11, str (rdA [] ((p99.set p104.toNat (rdA [] p99 p106)).set p106.toNat (rdA [] p99 p104)) x321))] [0, 11, 68, 69, 73, 77, 78] (L2 := [(0, .slice A100 ((p99.set p104.toNat (rdA [] p99 p106)).set p106.toNat (rdA [] p99 p104)).length c101), (11, .int .i64 x321), (68, .slice A100 ((p99.set p104.toNat (rdA [] p99 p106)).set p106.toNat (rdA [] p99 p104)).length c101), (69, .int .i64 p104), (73, str (rdA [] ((p99.set p104.toNat (rdA [] p99 p106)).set p106.toNat (rdA [] p99 p104)) p104)), (77, str (rdA [] ((p99.set p104.toNat (rdA [] p99 p106)).set p106.toNat (rdA [] p99 p104)) x321)), (78, .pointer (some ((A100.getD ad0).add (x321.toNat * 1))))]) (obs := [fun _ => A100.isSome = true ∧ 0 ≤ p104 ∧ p104 < ((((p99.set p104.toNat (rdA [] p99 p106)).set p106.toNat (rdA [] p99 p104)).length : Nat) : Int), fun w => w.cell? ((A100.getD ad0).add (p104.toNat * 1)) = some (str (rdA [] ((p99.set p104.toNat (rdA [] p99 p106)).set p106.toNat (rdA [] p99 p104)) p104)), fun _ => A100.isSome = true ∧ 0 ≤ x321 ∧ x321 < ((((p99.set p104.toNat (rdA [] p99 p106)).set p106.toNat (rdA [] p99 p104)).length : Nat) : Int), fun w => w.cell? ((A100.getD ad0).add (x321.toNat * 1)) = some (str (rdA [] ((p99.set p104.toNat (rdA [] p99 p106)).set p106.toNat (rdA [] p99 p104)) x321)), fun _ => A100.isSome = true ∧ 0 ≤ x321 ∧ x321 < ((((p99.set p104.toNat (rdA [] p99 p106)).set p106.toNat (rdA [] p99 p104)).length : Nat) : Int)]) (by kernel_rfl) (by kernel_rfl) (by kernel_rfl) (.inr fun w hs => ⟨ho115.one [] p104 h109 h325 hs (k := 0) rfl, ho115.one [] x321 h326 h327 hs (k := 0) rfl⟩) (fun w hS => ⟨⟨ho115.ne p104 h109 h325, h109, h325⟩, hS.1, ⟨ho115.ne x321 h326 h327, h326, h327⟩, hS.2, ⟨ho115.ne x321 h326 h327, h326, h327⟩⟩) (fun w hs => ⟨⟨ho115.ne p104 h109 h325, h109, h325⟩, ho115.one [] p104 h109 h325 hs (k := 0) rfl, ⟨ho115.ne x321 h326 h327, h326, h327⟩, ho115.one [] x321 h326 h327 hs (k := 0) rfl, ⟨ho115.ne x321 h326 h327, h326, h327⟩⟩) ?_
        refine at_x1 2 13 (#[true, true, true, true, true, true, true, true, true, true, true, true, true, true, false, false]) rfl (by kernel_rfl) (by kernel_rfl) rfl rfl ?_
        refine eff_storeOwn (K := Kd.string) (u := rdA [] ((p99.set p104.toNat (rdA [] p99 p106)).set p106.toNat (rdA [] p99 p104)) p104) 0 0 [] x321 rfl rfl rfl rfl ho115 rfl h326 h327 (add0 _).symm rfl (Nat.le_of_ble_eq_true (by kernel_rfl)) rfl (by rintro cs_ rfl; rfl) (fun s328 ho329 => ?_)
        refine at_eqL2 (L1 := [(0, .slice A100 ((p99.set p104.toNat (rdA [] p99 p106)).set p106.toNat (rdA [] p99 p104)).length c101), (11, .int .i64 x321), (68, .slice A100 ((p99.set p104.toNat (rdA [] p99 p106)).set p106.toNat (rdA [] p99 p104)).length c101), (69, .int .i64 p104), (73, str (rdA [] ((p99.set p104.toNat (rdA [] p99 p106)).set p106.toNat (rdA [] p99 p104)) p104)), (77, str (rdA [] ((p99.set p104.toNat (rdA [] p99 p106)).set p106.toNat (rdA [] p99 p104)) x321)), (78, .pointer (some ((A100.getD ad0).add (x321.toNat * 1))))]) (L2 := [(0, .slice A100 (((p99.set p104.toNat (rdA [] p99 p106)).set p106.toNat (rdA [] p99 p104)).set x321.toNat (rdA [] ((p99.set p104.toNat (rdA [] p99 p106)).set p106.toNat (rdA [] p99 p104)) p104)).length c101), (11, .int .i64 x321), (68, .slice A100 (((p99.set p104.toNat (rdA [] p99 p106)).set p106.toNat (rdA [] p99 p104)).set x321.toNat (rdA [] ((p99.set p104.toNat (rdA [] p99 p106)).set p106.toNat (rdA [] p99 p104)) p104)).length c101), (69, .int .i64 p104), (73, str (rdA [] ((p99.set p104.toNat (rdA [] p99 p106)).set p106.toNat (rdA [] p99 p104)) p104)), (77, str (rdA [] ((p99.set p104.toNat (rdA [] p99 p106)).set p106.toNat (rdA [] p99 p104)) x321)), (78, .pointer (some ((A100.getD ad0).add (x321.toNat * 1))))]) rfl (by simp only [List.length_set]) ?_
        refine at_xX (by kernel_rfl) ?_
        obtain ⟨h330, H⟩ := ite_some H
        refine at_xseg [14] 1 (#[true, true, true, true, true, true, true, true, true, true, true, true, true, true, true, false]) rfl (by kernel_rfl) [] [0, 11, 77, 79] (L2 := [(0, .slice A100 (((p99.set p104.toNat (rdA [] p99 p106)).set p106.toNat (rdA [] p99 p104)).set x321.toNat (rdA [] ((p99.set p104.toNat (rdA [] p99 p106)).set p106.toNat (rdA [] p99 p104)) p104)).length c101), (11, .int .i64 x321), (77, str (rdA [] ((p99.set p104.toNat (rdA [] p99 p106)).set p106.toNat (rdA [] p99 p104)) x321)), (79, .pointer (some ((A100.getD ad0).add (p104.toNat * 1))))]) (obs := [fun _ => A100.isSome = true ∧ 0 ≤ p104 ∧ p104 < (((((p99.set p104.toNat (rdA [] p99 p106)).set p106.toNat (rdA [] p99 p104)).set x321.toNat (rdA [] ((p99.set p104.toNat (rdA [] p99 p106)).set p106.toNat (rdA [] p99 p104)) p104)).length : Nat) : Int)]) (by kernel_rfl) (by kernel_rfl) (by kernel_rfl) (.inl (by kernel_rfl)) (fun w hS => ⟨ho329.ne p104 h109 h330, h109, h330⟩) (fun w hs => ⟨ho329.ne p104 h109 h330, h109, h330⟩) ?_
        refine at_x1 0 15 (#[true, true, true, true, true, true, true, true, true, true, true, true, true, true, true, true]) rfl (by kernel_rfl) (by kernel_rfl) rfl rfl ?_
        refine eff_storeOwn (K := Kd.string) (u := rdA [] ((p99.set p104.toNat (rdA [] p99 p106)).set p106.toNat (rdA [] p99 p104)) x321) 0 0 [] p104 rfl rfl rfl rfl ho329 rfl h109 h330 (add0 _).symm rfl (Nat.le_of_ble_eq_true (by kernel_rfl)) rfl (by rintro cs_ rfl; rfl) (fun s331 ho332 => ?_)
        refine at_eqL2 (L1 := [(0, .slice A100 (((p99.set p104.toNat (rdA [] p99 p106)).set p106.toNat (rdA [] p99 p104)).set x321.toNat (rdA [] ((p99.set p104.toNat (rdA [] p99 p106)).set p106.toNat (rdA [] p99 p104)) p104)).length c101), (11, .int .i64 x321), (77, str (rdA [] ((p99.set p104.toNat (rdA [] p99 p106)).set p106.toNat (rdA [] p99 p104)) x321)), (79, .pointer (some ((A100.getD ad0).add (p104.toNat * 1))))]) (L2 := [(0, .slice A100 ((((p99.set p104.toNat (rdA [] p99 p106)).set p106.toNat (rdA [] p99 p104)).set x321.toNat (rdA [] ((p99.set p104.toNat (rdA [] p99 p106)).set p106.toNat (rdA [] p99 p104)) p104)).set p104.toNat (rdA [] ((p99.set p104.toNat (rdA [] p99 p106)).set p106.toNat (rdA [] p99 p104)) x321)).length c101), (11, .int .i64 x321), (77, str (rdA [] ((p99.set p104.toNat (rdA [] p99 p106)).set p106.toNat (rdA [] p99 p104)) x321)), (79, .pointer (some ((A100.getD ad0).add (p104.toNat * 1))))]) rfl (by simp only [List.length_set]) ?_
        refine at_xX (by kernel_rfl) ?_
        refine at_xend (by kernel_rfl) ?_
        refine at_thn ?_
        refine at_seq ?_
        refine at_reg [] [0, 8, 9] (L2 := [(0, .slice A100 ((((p99.set p104.toNat (rdA [] p99 p106)).set p106.toNat (rdA [] p99 p104)).set x321.toNat (rdA [] ((p99.set p104.toNat (rdA [] p99 p106)).set p106.toNat (rdA [] p99 p104)) p104)).set p104.toNat (rdA [] ((p99.set p104.toNat (rdA [] p99 p106)).set p106.toNat (rdA [] p99 p104)) x321)).length c101), (8, .int .i64 x321), (9, .bool true)]) (obs := []) (by kernel_rfl) ?_ ?_
        · intro w hs; exact trivial
        refine at_thn ?_
        refine at_ret ?_
        refine at_then_ret ?_
        obtain ⟨h333, H⟩ := ite_some H
        obtain rfl := Option.some.inj H
        refine at_done (vs := [.int .i64 x321, .bool true]) (obs := []) (.inl rfl) [.tmp 8, .tmp 9] [] rfl (by kernel_rfl) (fun w hs => trivial) (fun w hs => ⟨_, _, [s331], rfl, ⟨s331, rfl, rfl, ho332, h333⟩, hle, hs⟩)
      · rw [if_neg h324] at H
        refine at_cond_f rfl (decide_eq_false h324) ?_
        refine at_skip ?_
        refine at_thn ?_
        refine at_seq ?_
        obtain ⟨h334, H⟩ := ite_some H
        obtain ⟨h335, H⟩ := ite_some H
        obtain ⟨h336, H⟩ := ite_some H
        obtain ⟨h337, H⟩ := ite_some H
        refine at_x hmo (fun w => w.cell? ((A100.getD ad0).add (x321.toNat * 1)) = some (str (rdA [] ((p99.set p104.toNat (rdA [] p99 p106)).set p106.toNat (rdA [] p99 p104)) x321)) ∧ w.cell? ((A100.getD ad0).add (x217.toNat * 1)) = some (str (rdA [] ((p99.set p104.toNat (rdA [] p99 p106)).set p106.toNat (rdA [] p99 p104)) x217))) [13, 15] ?_
        refine at_xseg [0, 1, 2, 3, 4, 5, 6, 7, 8, 9, 10, 11, 12] 3 (#[true, true, true, true, true, true, true, true, true, true, true, true, true, false, false, false]) rfl (by kernel_rfl) [(7, str (rdA [] ((p99.set p104.toNat (rdA [] p99 p106)).set p106.toNat (rdA [] p99 p104)) x321)), (11, str (rdA [] ((p99.set p104.toNat (rdA [] p99 p106)).set p106.toNat (rdA [] p99 p104)) x217))] [0, 1, 10, 11, 83, 84, 88, 92, 93] (L2 := [(0, .slice A100 ((p99.set p104.toNat (rdA [] p99 p106)).set p106.toNat (rdA [] p99 p104)).length c101), (1, .int .i64 p104), (10, .int .i64 x217), (11, .int .i64 x321), (83, .slice A100 ((p99.set p104.toNat (rdA [] p99 p106)).set p106.toNat (rdA [] p99 p104)).length c101), (84, .int .i64 x321), (88, str (rdA [] ((p99.set p104.toNat (rdA [] p99 p106)).set p106.toNat (rdA [] p99 p104)) x321)), (92, str (rdA [] ((p99.set p104.toNat (rdA [] p99 p106)).set p106.toNat (rdA [] p99 p104)) x217)), (93, .pointer (some ((A100.getD ad0).add (x217.toNat * 1))))]) (obs := [fun _ => A100.isSome = true ∧ 0 ≤ x321 ∧ x321 < ((((p99.set p104.toNat (rdA [] p99 p106)).set p106.toNat (rdA [] p99 p104)).length : Nat) : Int), fun w => w.cell? ((A100.getD ad0).add (x321.toNat * 1)) = some (str (rdA [] ((p99.set p104.toNat (rdA [] p99 p106)).set p106.toNat (rdA [] p99 p104)) x321)), fun _ => A100.isSome = true ∧ 0 ≤ x217 ∧ x217 < ((((p99.set p104.toNat (rdA [] p99 p106)).set p106.toNat (rdA [] p99 p104)).length : Nat) : Int), fun w => w.cell? ((A100.getD ad0).add (x217.toNat * 1)) = some (str (rdA [] ((p99.set p104.toNat (rdA [] p99 p106)).set p106.toNat (rdA [] p99 p104)) x217)), fun _ => A100.isSome = true ∧ 0 ≤ x217 ∧ x217 < ((((p99.set p104.toNat (rdA [] p99 p106)).set p106.toNat (rdA [] p99 p104)).length : Nat) : Int)]) (by kernel_rfl) (by kernel_rfl) (by kernel_rfl) (.inr fun w hs => ⟨ho115.one [] x321 h334 h335 hs (k := 0) rfl, ho115.one [] x217 h336 h337 hs (k := 0) rfl⟩) (fun w hS => ⟨⟨ho115.ne x321 h334 h335, h334, h335⟩, hS.1, ⟨ho115.ne x217 h336 h337, h336, h337⟩, hS.2, ⟨ho115.ne x217 h336 h337, h336, h337⟩⟩) (fun w hs => ⟨⟨ho115.ne x321 h334 h335, h334, h335⟩, ho115.one [] x321 h334 h335 hs (k := 0) rfl, ⟨ho115.ne x217 h336 h337, h336, h337⟩, ho115.one [] x217 h336 h337 hs (k := 0) rfl, ⟨ho115.ne x217 h336 h337, h336, h337⟩⟩) ?_
        refine at_x1 2 13 (#[true, true, true, true, true, true, true, true, true, true, true, true, true, true, false, false]) rfl (by kernel_rfl) (by kernel_rfl) rfl rfl ?_
        refine eff_storeOwn (K := Kd.string) (u := rdA [] ((p99.set p104.toNat (rdA [] p99 p106)).set p106.toNat (rdA [] p99 p104)) x321) 0 0 [] x217 rfl rfl rfl rfl ho115 rfl h336 h337 (add0 _).symm rfl (Nat.le_of_ble_eq_true (by kernel_rfl)) rfl (by rintro cs_ rfl; rfl) (fun s338 ho339 => ?_)
        refine at_eqL2 (L1 := [(0, .slice A100 ((p99.set p104.toNat (rdA [] p99 p106)).set p106.toNat (rdA [] p99 p104)).length c101), (1, .int .i64 p104), (10, .int .i64 x217), (11, .int .i64 x321), (83, .slice A100 ((p99.set p104.toNat (rdA [] p99 p106)).set p106.toNat (rdA [] p99 p104)).length c101), (84, .int .i64 x321), (88, str (rdA [] ((p99.set p104.toNat (rdA [] p99 p106)).set p106.toNat (rdA [] p99 p104)) x321)), (92, str (rdA [] ((p99.set p104.toNat (rdA [] p99 p106)).set p106.toNat (rdA [] p99 p104)) x217)), (93, .pointer (some ((A100.getD ad0).add (x217.toNat * 1))))]) (L2 := [(0, .slice A100 (((p99.set p104.toNat (rdA [] p99 p106)).set p106.toNat (rdA [] p99 p104)).set x217.toNat (rdA [] ((p99.set p104.toNat (rdA [] p99 p106)).set p106.toNat (rdA [] p99 p104)) x321)).length c101), (1, .int .i64 p104), (10, .int .i64 x217), (11, .int .i64 x321), (83, .slice A100 (((p99.set p104.toNat (rdA [] p99 p106)).set p106.toNat (rdA [] p99 p104)).set x217.toNat (rdA [] ((p99.set p104.toNat (rdA [] p99 p106)).set p106.toNat (rdA [] p99 p104)) x321)).length c101), (84, .int .i64 x321), (88, str (rdA [] ((p99.set p104.toNat (rdA [] p99 p106)).set p106.toNat (rdA [] p99 p104)) x321)), (92, str (rdA [] ((p99.set p104.toNat (rdA [] p99 p106)).set p106.toNat (rdA [] p99 p104)) x217)), (93, .pointer (some ((A100.getD ad0).add (x217.toNat * 1))))]) rfl (by simp only [List.length_set]) ?_
        refine at_xX (by kernel_rfl) ?_
        obtain ⟨h340, H⟩ := ite_some H
        refine at_xseg [14] 1 (#[true, true, true, true, true, true, true, true, true, true, true, true, true, true, true, false]) rfl (by kernel_rfl) [] [0, 1, 10, 11, 92, 94] (L2 := [(0, .slice A100 (((p99.set p104.toNat (rdA [] p99 p106)).set p106.toNat (rdA [] p99 p104)).set x217.toNat (rdA [] ((p99.set p104.toNat (rdA [] p99 p106)).set p106.toNat (rdA [] p99 p104)) x321)).length c101), (1, .int .i64 p104), (10, .int .i64 x217), (11, .int .i64 x321), (92, str (rdA [] ((p99.set p104.toNat (rdA [] p99 p106)).set p106.toNat (rdA [] p99 p104)) x217)), (94, .pointer (some ((A100.getD ad0).add (x321.toNat * 1))))]) (obs := [fun _ => A100.isSome = true ∧ 0 ≤ x321 ∧ x321 < (((((p99.set p104.toNat (rdA [] p99 p106)).set p106.toNat (rdA [] p99 p104)).set x217.toNat (rdA [] ((p99.set p104.toNat (rdA [] p99 p106)).set p106.toNat (rdA [] p99 p104)) x321)).length : Nat) : Int)]) (by kernel_rfl) (by kernel_rfl) (by kernel_rfl) (.inl (by kernel_rfl)) (fun w hS => ⟨ho339.ne x321 h334 h340, h334, h340⟩) (fun w hs => ⟨ho339.ne x321 h334 h340, h334, h340⟩) ?_
        refine at_x1 0 15 (#[true, true, true, true, true, true, true, true, true, true, true, true, true, true, true, true]) rfl (by kernel_rfl) (by kernel_rfl) rfl rfl ?_
        refine eff_storeOwn (K := Kd.string) (u := rdA [] ((p99.set p104.toNat (rdA [] p99 p106)).set p106.toNat (rdA [] p99 p104)) x217) 0 0 [] x321 rfl rfl rfl rfl ho339 rfl h334 h340 (add0 _).symm rfl (Nat.le_of_ble_eq_true (by kernel_rfl)) rfl (by rintro cs_ rfl; rfl) (fun s341 ho342 => ?_)
        refine at_eqL2 (L1 := [(0, .slice A100 (((p99.set p104.toNat (rdA [] p99 p106)).set p106.toNat (rdA [] p99 p104)).set x217.toNat (rdA [] ((p99.set p104.toNat (rdA [] p99 p106)).set p106.toNat (rdA [] p99 p104)) x321)).length c101), (1, .int .i64 p104), (10, .int .i64 x217), (11, .int .i64 x321), (92, str (rdA [] ((p99.set p104.toNat (rdA [] p99 p106)).set p106.toNat (rdA [] p99 p104)) x217)), (94, .pointer (some ((A100.getD ad0).add (x321.toNat * 1))))]) (L2 := [(0, .slice A100 ((((p99.set p104.toNat (rdA [] p99 p106)).set p106.toNat (rdA [] p99 p104)).set x217.toNat (rdA [] ((p99.set p104.toNat (rdA [] p99 p106)).set p106.toNat (rdA [] p99 p104)) x321)).set x321.toNat (rdA [] ((p99.set p104.toNat (rdA [] p99 p106)).set p106.toNat (rdA [] p99 p104)) x217)).length c101), (1, .int .i64 p104), (10, .int .i64 x217), (11, .int .i64 x321), (92, str (rdA [] ((p99.set p104.toNat (rdA [] p99 p106)).set p106.toNat (rdA [] p99 p104)) x217)), (94, .pointer (some ((A100.getD ad0).add (x321.toNat * 1))))]) rfl (by simp only [List.length_set]) ?_
        refine at_xX (by kernel_rfl) ?_
        refine at_xend (by kernel_rfl) ?_
        refine at_thn ?_
        refine at_seq ?_
        refine at_reg [] [0, 1, 10, 11] (L2 := [(0, .slice A100 ((((p99.set p104.toNat (rdA [] p99 p106)).set p106.toNat (rdA [] p99 p104)).set x217.toNat (rdA [] ((p99.set p104.toNat (rdA [] p99 p106)).set p106.toNat (rdA [] p99 p104)) x321)).set x321.toNat (rdA [] ((p99.set p104.toNat (rdA [] p99 p106)).set p106.toNat (rdA [] p99 p104)) x217)).length c101), (1, .int .i64 p104), (10, .int .i64 (IntKind.i64.wrap (x217 + 1))), (11, .int .i64 x321)]) (obs := []) (by kernel_rfl) ?_ ?_
        · intro w hs; exact trivial
        refine at_thn ?_
        refine at_seq ?_
        refine at_reg [] [0, 1, 10, 11] (L2 := [(0, .slice A100 ((((p99.set p104.toNat (rdA [] p99 p106)).set p106.toNat (rdA [] p99 p104)).set x217.toNat (rdA [] ((p99.set p104.toNat (rdA [] p99 p106)).set p106.toNat (rdA [] p99 p104)) x321)).set x321.toNat (rdA [] ((p99.set p104.toNat (rdA [] p99 p106)).set p106.toNat (rdA [] p99 p104)) x217)).length c101), (1, .int .i64 p104), (10, .int .i64 (IntKind.i64.wrap (x217 + 1))), (11, .int .i64 (IntKind.i64.wrap (x321 - 1)))]) (obs := []) (by kernel_rfl) ?_ ?_
        · intro w hs; exact trivial
        refine at_thn ?_
        refine at_join (fun L I Ms => ∃ (k450 : Nat), ∃ (x444 : List (List UInt8)) (s447 : Seg) (x449 : Int), L = [(0, .slice A100 x444.length c101), (1, .int .i64 p104), (11, .int .i64 x449)] ∧ Ms = (s447 :: Fs) ∧ slices_partitionOrdered_string_j2 k450 x444 x449 p99 p104 = some r ∧ ImmLe I0 I ∧ k450 ≤ k322 ∧ Own Kd.string 9 I A100 c101 x444 s447) ?_ ?_
        · clear H hle ho342
          intro L I Ms h_; obtain ⟨k450, x444, s447, x449, hL_, hM_, H, hle, hk451, ho448⟩ := h_; rw [hL_, hM_]; clear hL_ hM_ L Ms
          rcases k450 with _ | k450
          · exact (no_none H).elim
          rw [slices_partitionOrdered_string_j2] at H
          refine at_seq ?_
          obtain ⟨h452, H⟩ := ite_some H
          obtain ⟨h453, H⟩ := ite_some H
          obtain ⟨h454, H⟩ := ite_some H
          refine at_x hmo (fun w => w.cell? ((A100.getD ad0).add (p104.toNat * 1)) = some (str (rdA [] x444 p104)) ∧ w.cell? ((A100.getD ad0).add (x449.toNat * 1)) = some (str (rdA [] x444 x449))) [13, 15] ?_
          refine at_xseg [0, 1, 2, 3, 4, 5, 6, 7, 8, 9, 10, 11, 12] 3 (#[true, true, true, true, true, true, true, true, true, true, true, true, true, false, false, false]) rfl (by kernel_rfl) [(7, str (rdA [] x444 p104)), (11, str (rdA [] x444 x449))] [0, 11, 155, 156, 160, 164, 165] (L2 := [(0, .slice A100 x444.length c101), (11, .int .i64 x449), (155, .slice A100 x444.length c101), (156, .int .i64 p104), (160, str (rdA [] x444 p104)), (164, str (rdA [] x444 x449)), (165, .pointer (some ((A100.getD ad0).add (x449.toNat * 1))))]) (obs := [fun _ => A100.isSome = true ∧ 0 ≤ p104 ∧ p104 < ((x444.length : Nat) : Int), fun w => w.cell? ((A100.getD ad0).add (p104.toNat * 1)) = some (str (rdA [] x444 p104)), fun _ => A100.isSome = true ∧ 0 ≤ x449 ∧ x449 < ((x444.length : Nat) : Int), fun w => w.cell? ((A100.getD ad0).add (x449.toNat * 1)) = some (str (rdA [] x444 x449)), fun _ => A100.isSome = true ∧ 0 ≤ x449 ∧ x449 < ((x444.length : Nat) : Int)]) (by kernel_rfl) (by kernel_rfl) (by kernel_rfl) (.inr fun w hs => ⟨ho448.one [] p104 h109 h452 hs (k := 0) rfl, ho448.one [] x449 h453 h454 hs (k := 0) rfl⟩) (fun w hS => ⟨⟨ho448.ne p104 h109 h452, h109, h452⟩, hS.1, ⟨ho448.ne x449 h453 h454, h453, h454⟩, hS.2, ⟨ho448.ne x449 h453 h454, h453, h454⟩⟩) (fun w hs => ⟨⟨ho448.ne p104 h109 h452, h109, h452⟩, ho448.one [] p104 h109 h452 hs (k := 0) rfl, ⟨ho448.ne x449 h453 h454, h453, h454⟩, ho448.one [] x449 h453 h454 hs (k := 0) rfl, ⟨ho448.ne x449 h453 h454, h453, h454⟩⟩) ?_
          refine at_x1 2 13 (#[true, true, true, true, true, true, true, true, true, true, true, true, true, true, false, false]) rfl (by kernel_rfl) (by kernel_rfl) rfl rfl ?_
          refine eff_storeOwn (K := Kd.string) (u := rdA [] x444 p104) 0 0 [] x449 rfl rfl rfl rfl ho448 rfl h453 h454 (add0 _).symm rfl (Nat.le_of_ble_eq_true (by kernel_rfl)) rfl (by rintro cs_ rfl; rfl) (fun s455 ho456 => ?_)
          refine at_eqL2 (L1 := [(0, .slice A100 x444.length c101), (11, .int .i64 x449), (155, .slice A100 x444.length c101), (156, .int .i64 p104), (160, str (rdA [] x444 p104)), (164, str (rdA [] x444 x449)), (165, .pointer (some ((A100.getD ad0).add (x449.toNat * 1))))]) (L2 := [(0, .slice A100 (x444.set x449.toNat (rdA [] x444 p104)).length c101), (11, .int .i64 x449), (155, .slice A100 (x444.set x449.toNat (rdA [] x444 p104)).length c101), (156, .int .i64 p104), (160, str (rdA [] x444 p104)), (164, str (rdA [] x444 x449)), (165, .pointer (some ((A100.getD ad0).add (x449.toNat * 1))))]) rfl (by simp only [List.length_set]) ?_
          refine at_xX (by kernel_rfl) ?_
          obtain ⟨h457, H⟩ := ite_some H
          refine at_xseg [14] 1 (#[true, true, true, true, true, true, true, true, true, true, true, true, true, true, true, false]) rfl (by kernel_rfl) [] [0, 11, 164, 166] (L2 := [(0, .slice A100 (x444.set x449.toNat (rdA [] x444 p104)).length c101), (11, .int .i64 x449), (164, str (rdA [] x444 x449)), (166, .pointer (some ((A100.getD ad0).add (p104.toNat * 1))))]) (obs := [fun _ => A100.isSome = true ∧ 0 ≤ p104 ∧ p104 < (((x444.set x449.toNat (rdA [] x444 p104)).length : Nat) : Int)]) (by kernel_rfl) (by kernel_rfl) (by kernel_rfl) (.inl (by kernel_rfl)) (fun w hS => ⟨ho456.ne p104 h109 h457, h109, h457⟩) (fun w hs => ⟨ho456.ne p104 h109 h457, h109, h457⟩) ?_
          refine at_x1 0 15 (#[true, true, true, true, true, true, true, true, true, true, true, true, true, true, true, true]) rfl (by kernel_rfl) (by kernel_rfl) rfl rfl ?_
          refine eff_storeOwn (K := Kd.string) (u := rdA [] x444 x449) 0 0 [] p104 rfl rfl rfl rfl ho456 rfl h109 h457 (add0 _).symm rfl (Nat.le_of_ble_eq_true (by kernel_rfl)) rfl (by rintro cs_ rfl; rfl) (fun s458 ho459 => ?_)
          refine at_eqL2 (L1 := [(0, .slice A100 (x444.set x449.toNat (rdA [] x444 p104)).length c101), (11, .int .i64 x449), (164, str (rdA [] x444 x449)), (166, .pointer (some ((A100.getD ad0).add (p104.toNat * 1))))]) (L2 := [(0, .slice A100 ((x444.set x449.toNat (rdA [] x444 p104)).set p104.toNat (rdA [] x444 x449)).length c101), (11, .int .i64 x449), (164, str (rdA [] x444 x449)), (166, .pointer (some ((A100.getD ad0).add (p104.toNat * 1))))]) rfl (by simp only [List.length_set]) ?_
          refine at_xX (by kernel_rfl) ?_
          refine at_xend (by kernel_rfl) ?_
          refine at_thn ?_
          refine at_seq ?_
          refine at_reg [] [0, 8, 9] (L2 := [(0, .slice A100 ((x444.set x449.toNat (rdA [] x444 p104)).set p104.toNat (rdA [] x444 x449)).length c101), (8, .int .i64 x449), (9, .bool false)]) (obs := []) (by kernel_rfl) ?_ ?_
          · intro w hs; exact trivial
          refine at_thn ?_
          refine at_ret ?_
          obtain ⟨h460, H⟩ := ite_some H
          obtain rfl := Option.some.inj H
          refine at_done (vs := [.int .i64 x449, .bool false]) (obs := []) (.inl rfl) [.tmp 8, .tmp 9] [] rfl (by kernel_rfl) (fun w hs => trivial) (fun w hs => ⟨_, _, [s458], rfl, ⟨s458, rfl, rfl, ho459, h460⟩, hle, hs⟩)
        · intro Jn343
          refine at_block ?_
          refine at_keep [0, 1, 10, 11] (L2 := [(0, .slice A100 ((((p99.set p104.toNat (rdA [] p99 p106)).set p106.toNat (rdA [] p99 p104)).set x217.toNat (rdA [] ((p99.set p104.toNat (rdA [] p99 p106)).set p106.toNat (rdA [] p99 p104)) x321)).set x321.toNat (rdA [] ((p99.set p104.toNat (rdA [] p99 p106)).set p106.toNat (rdA [] p99 p104)) x217)).length c101), (1, .int .i64 p104), (10, .int .i64 (IntKind.i64.wrap (x217 + 1))), (11, .int .i64 (IntKind.i64.wrap (x321 - 1)))]) rfl ?_
          refine at_loop (fun k468 L I Ms => ∃ (x461 : List (List UInt8)) (s464 : Seg) (x466 : Int) (x467 : Int), L = [(0, .slice A100 x461.length c101), (1, .int .i64 p104), (10, .int .i64 x466), (11, .int .i64 x467)] ∧ Ms = (s464 :: Fs) ∧ slices_partitionOrdered_string_l0 k468 x461 x466 x467 p99 p104 = some r ∧ ImmLe I0 I ∧ k468 ≤ k322 ∧ Own Kd.string 9 I A100 c101 x461 s464) ?_ ?_ k322 ⟨(((p99.set p104.toNat (rdA [] p99 p106)).set p106.toNat (rdA [] p99 p104)).set x217.toNat (rdA [] ((p99.set p104.toNat (rdA [] p99 p106)).set p106.toNat (rdA [] p99 p104)) x321)).set x321.toNat (rdA [] ((p99.set p104.toNat (rdA [] p99 p106)).set p106.toNat (rdA [] p99 p104)) x217), s341, IntKind.i64.wrap (x217 + 1), IntKind.i64.wrap (x321 - 1), rfl, rfl, H, hle, Nat.le_refl _, ho342⟩
          · rintro L I Ms ⟨_, _, _, _, rfl, rfl, H, _⟩; exact no_none H
          · clear H hle ho342
            intro k468 ih469 L I Ms h_; obtain ⟨x461, s464, x466, x467, hL_, hM_, H, hle, hk470, ho465⟩ := h_; rw [hL_, hM_]; clear hL_ hM_ L Ms
            rw [slices_partitionOrdered_string_l0] at H
            refine at_block ?_
            refine at_join (fun L I Ms => ∃ (k573 : Nat), ∃ (x572 : Int), L = [(0, .slice A100 x461.length c101), (1, .int .i64 p104), (10, .int .i64 x572), (11, .int .i64 x467)] ∧ Ms = (s464 :: Fs) ∧ slices_partitionOrdered_string_j3 k573 x572 p99 p104 x461 x467 = some r ∧ ImmLe I0 I ∧ k573 ≤ k468 ∧ Own Kd.string 9 I A100 c101 x461 s464) ?_ ?_
            · clear H hle ho465
              intro L I Ms h_; obtain ⟨k573, x572, hL_, hM_, H, hle, hk574, ho465⟩ := h_; rw [hL_, hM_]; clear hL_ hM_ L Ms
              rcases k573 with _ | k573
              · exact (no_none H).elim
              rw [slices_partitionOrdered_string_j3] at H
              refine at_join (fun L I Ms => ∃ (k677 : Nat), ∃ (x676 : Int), L = [(0, .slice A100 x461.length c101), (1, .int .i64 p104), (10, .int .i64 x572), (11, .int .i64 x676)] ∧ Ms = (s464 :: Fs) ∧ slices_partitionOrdered_string_j4 k677 x676 p99 p104 x461 x572 = some r ∧ ImmLe I0 I ∧ k677 ≤ k573 ∧ Own Kd.string 9 I A100 c101 x461 s464) ?_ ?_
              · clear H hle ho465
                intro L I Ms h_; obtain ⟨k677, x676, hL_, hM_, H, hle, hk678, ho465⟩ := h_; rw [hL_, hM_]; clear hL_ hM_ L Ms
                rcases k677 with _ | k677
                · exact (no_none H).elim
                rw [slices_partitionOrdered_string_j4] at H
                refine at_seq ?_
                refine at_seq ?_
                refine at_reg [] [0, 1, 10, 11, 134] (L2 := [(0, .slice A100 x461.length c101), (1, .int .i64 p104), (10, .int .i64 x572), (11, .int .i64 x676), (134, .bool (decide (x572 > x676)))]) (obs := []) (by kernel_rfl) ?_ ?_
                · intro w hs; exact trivial
                refine at_thn ?_
                by_cases h679 : x572 > x676
                · rw [if_pos h679] at H
                  refine at_cond_t rfl (decide_eq_true h679) ?_
                  refine at_exit ?_
                  refine at_then_exit ?_
                  refine at_in_miss (by decide) ?_
                  refine at_then_exit ?_
                  refine at_in_hit ?_
                  refine at_thn ?_
                  refine at_keep [0, 1, 11] (L2 := [(0, .slice A100 x461.length c101), (1, .int .i64 p104), (11, .int .i64 x676)]) rfl ?_
                  exact Jn343 _ _ _ ⟨_, x461, s464, x676, rfl, rfl, H, hle, by omega, ho465⟩
                · rw [if_neg h679] at H
                  refine at_cond_f rfl (decide_eq_false h679) ?_
                  refine at_skip ?_
                  refine at_thn ?_
                  refine at_seq ?_
                  obtain ⟨h680, H⟩ := ite_some H
                  obtain ⟨h681, H⟩ := ite_some H
                  obtain ⟨h682, H⟩ := ite_some H
                  obtain ⟨h683, H⟩ := ite_some H
                  refine at_x hmo (fun w => w.cell? ((A100.getD ad0).add (x676.toNat * 1)) = some (str (rdA [] x461 x676)) ∧ w.cell? ((A100.getD ad0).add (x572.toNat * 1)) = some (str (rdA [] x461 x572))) [13, 15] ?_
                  refine at_xseg [0, 1, 2, 3, 4, 5, 6, 7, 8, 9, 10, 11, 12] 3 (#[true, true, true, true, true, true, true, true, true, true, true, true, true, false, false, false]) rfl (by kernel_rfl) [(7, str (rdA [] x461 x676)), (11, str (rdA [] x461 x572))] [0, 1, 10, 11, 137, 138, 142, 146, 147] (L2 := [(0, .slice A100 x461.length c101), (1, .int .i64 p104), (10, .int .i64 x572), (11, .int .i64 x676), (137, .slice A100 x461.length c101), (138, .int .i64 x676), (142, str (rdA [] x461 x676)), (146, str (rdA [] x461 x572)), (147, .pointer (some ((A100.getD ad0).add (x572.toNat * 1))))]) (obs := [fun _ => A100.isSome = true ∧ 0 ≤ x676 ∧ x676 < ((x461.length : Nat) : Int), fun w => w.cell? ((A100.getD ad0).add (x676.toNat * 1)) = some (str (rdA [] x461 x676)), fun _ => A100.isSome = true ∧ 0 ≤ x572 ∧ x572 < ((x461.length : Nat) : Int), fun w => w.cell? ((A100.getD ad0).add (x572.toNat * 1)) = some (str (rdA [] x461 x572)), fun _ => A100.isSome = true ∧ 0 ≤ x572 ∧ x572 < ((x461.length : Nat) : Int)]) (by kernel_rfl) (by kernel_rfl) (by kernel_rfl) (.inr fun w hs => ⟨ho465.one [] x676 h680 h681 hs (k := 0) rfl, ho465.one [] x572 h682 h683 hs (k := 0) rfl⟩) (fun w hS => ⟨⟨ho465.ne x676 h680 h681, h680, h681⟩, hS.1, ⟨ho465.ne x572 h682 h683, h682, h683⟩, hS.2, ⟨ho465.ne x572 h682 h683, h682, h683⟩⟩) (fun w hs => ⟨⟨ho465.ne x676 h680 h681, h680, h681⟩, ho465.one [] x676 h680 h681 hs (k := 0) rfl, ⟨ho465.ne x572 h682 h683, h682, h683⟩, ho465.one [] x572 h682 h683 hs (k := 0) rfl, ⟨ho465.ne x572 h682 h683, h682, h683⟩⟩) ?_
                  refine at_x1 2 13 (#[true, true, true, true, true, true, true, true, true, true, true, true, true, true, false, false]) rfl (by kernel_rfl) (by kernel_rfl) rfl rfl ?_
                  refine eff_storeOwn (K := Kd.string) (u := rdA [] x461 x676) 0 0 [] x572 rfl rfl rfl rfl ho465 rfl h682 h683 (add0 _).symm rfl (Nat.le_of_ble_eq_true (by kernel_rfl)) rfl (by rintro cs_ rfl; rfl) (fun s684 ho685 => ?_)
                  refine at_eqL2 (L1 := [(0, .slice A100 x461.length c101), (1, .int .i64 p104), (10, .int .i64 x572), (11, .int .i64 x676), (137, .slice A100 x461.length c101), (138, .int .i64 x676), (142, str (rdA [] x461 x676)), (146, str (rdA [] x461 x572)), (147, .pointer (some ((A100.getD ad0).add (x572.toNat * 1))))]) (L2 := [(0, .slice A100 (x461.set x572.toNat (rdA [] x461 x676)).length c101), (1, .int .i64 p104), (10, .int .i64 x572), (11, .int .i64 x676), (137, .slice A100 (x461.set x572.toNat (rdA [] x461 x676)).length c101), (138, .int .i64 x676), (142, str (rdA [] x461 x676)), (146, str (rdA [] x461 x572)), (147, .pointer (some ((A100.getD ad0).add (x572.toNat * 1))))]) rfl (by simp only [List.length_set]) ?_
                  refine at_xX (by kernel_rfl) ?_
                  obtain ⟨h686, H⟩ := ite_some H
                  refine at_xseg [14] 1 (#[true, true, true, true, true, true, true, true, true, true, true, true, true, true, true, false]) rfl (by kernel_rfl) [] [0, 1, 10, 11, 146, 148] (L2 := [(0, .slice A100 (x461.set x572.toNat (rdA [] x461 x676)).length c101), (1, .int .i64 p104), (10, .int .i64 x572), (11, .int .i64 x676), (146, str (rdA [] x461 x572)), (148, .pointer (some ((A100.getD ad0).add (x676.toNat * 1))))]) (obs := [fun _ => A100.isSome = true ∧ 0 ≤ x676 ∧ x676 < (((x461.set x572.toNat (rdA [] x461 x676)).length : Nat) : Int)]) (by kernel_rfl) (by kernel_rfl) (by kernel_rfl) (.inl (by kernel_rfl)) (fun w hS => ⟨ho685.ne x676 h680 h686, h680, h686⟩) (fun w hs => ⟨ho685.ne x676 h680 h686, h680, h686⟩) ?_
                  refine at_x1 0 15 (#[true, true, true, true, true, true, true, true, true, true, true, true, true, true, true, true]) rfl (by kernel_rfl) (by kernel_rfl) rfl rfl ?_
                  refine eff_storeOwn (K := Kd.string) (u := rdA [] x461 x572) 0 0 [] x676 rfl rfl rfl rfl ho685 rfl h680 h686 (add0 _).symm rfl (Nat.le_of_ble_eq_true (by kernel_rfl)) rfl (by rintro cs_ rfl; rfl) (fun s687 ho688 => ?_)
                  refine at_eqL2 (L1 := [(0, .slice A100 (x461.set x572.toNat (rdA [] x461 x676)).length c101), (1, .int .i64 p104), (10, .int .i64 x572), (11, .int .i64 x676), (146, str (rdA [] x461 x572)), (148, .pointer (some ((A100.getD ad0).add (x676.toNat * 1))))]) (L2 := [(0, .slice A100 ((x461.set x572.toNat (rdA [] x461 x676)).set x676.toNat (rdA [] x461 x572)).length c101), (1, .int .i64 p104), (10, .int .i64 x572), (11, .int .i64 x676), (146, str (rdA [] x461 x572)), (148, .pointer (some ((A100.getD ad0).add (x676.toNat * 1))))]) rfl (by simp only [List.length_set]) ?_
                  refine at_xX (by kernel_rfl) ?_
                  refine at_xend (by kernel_rfl) ?_
                  refine at_thn ?_
                  refine at_seq ?_
                  refine at_reg [] [0, 1, 10, 11] (L2 := [(0, .slice A100 ((x461.set x572.toNat (rdA [] x461 x676)).set x676.toNat (rdA [] x461 x572)).length c101), (1, .int .i64 p104), (10, .int .i64 (IntKind.i64.wrap (x572 + 1))), (11, .int .i64 x676)]) (obs := []) (by kernel_rfl) ?_ ?_
                  · intro w hs; exact trivial
                  refine at_thn ?_
                  refine at_reg [] [0, 1, 10, 11] (L2 := [(0, .slice A100 ((x461.set x572.toNat (rdA [] x461 x676)).set x676.toNat (rdA [] x461 x572)).length c101), (1, .int .i64 p104), (10, .int .i64 (IntKind.i64.wrap (x572 + 1))), (11, .int .i64 (IntKind.i64.wrap (x676 - 1)))]) (obs := []) (by kernel_rfl) ?_ ?_
                  · intro w hs; exact trivial
                  refine at_in_norm ?_
                  refine at_thn ?_
                  refine at_keep [0, 1, 10, 11] (L2 := [(0, .slice A100 ((x461.set x572.toNat (rdA [] x461 x676)).set x676.toNat (rdA [] x461 x572)).length c101), (1, .int .i64 p104), (10, .int .i64 (IntKind.i64.wrap (x572 + 1))), (11, .int .i64 (IntKind.i64.wrap (x676 - 1)))]) rfl ?_
                  exact ih469 _ (by omega) _ _ _ ⟨(x461.set x572.toNat (rdA [] x461 x676)).set x676.toNat (rdA [] x461 x572), s687, IntKind.i64.wrap (x572 + 1), IntKind.i64.wrap (x676 - 1), rfl, rfl, H, hle, by omega, ho688⟩
              · intro Jn575
                refine at_block ?_
                refine at_keep [0, 1, 10, 11] (L2 := [(0, .slice A100 x461.length c101), (1, .int .i64 p104), (10, .int .i64 x572), (11, .int .i64 x467)]) rfl ?_
                refine at_loop (fun k690 L I Ms => ∃ (x689 : Int), L = [(0, .slice A100 x461.length c101), (1, .int .i64 p104), (10, .int .i64 x572), (11, .int .i64 x689)] ∧ Ms = (s464 :: Fs) ∧ slices_partitionOrdered_string_l1 k690 x689 p99 p104 x461 x572 = some r ∧ ImmLe I0 I ∧ k690 ≤ k573 ∧ Own Kd.string 9 I A100 c101 x461 s464) ?_ ?_ k573 ⟨x467, rfl, rfl, H, hle, Nat.le_refl _, ho465⟩
                · rintro L I Ms ⟨_, rfl, rfl, H, _⟩; exact no_none H
                · clear H hle ho465
                  intro k690 ih691 L I Ms h_; obtain ⟨x689, hL_, hM_, H, hle, hk692, ho465⟩ := h_; rw [hL_, hM_]; clear hL_ hM_ L Ms
                  rw [slices_partitionOrdered_string_l1] at H
                  refine at_seq ?_
                  refine at_seq ?_
                  by_cases h693 : x572 ≤ x689
                  · rw [if_pos h693] at H
                    obtain ⟨h694, H⟩ := ite_some H
                    obtain ⟨h695, H⟩ := ite_some H
                    obtain ⟨h696, H⟩ := ite_some H
                    refine at_x hmo (fun w => w.cell? ((A100.getD ad0).add (x689.toNat * 1)) = some (str (rdA [] x461 x689)) ∧ w.cell? ((A100.getD ad0).add (p104.toNat * 1)) = some (str (rdA [] x461 p104))) [] ?_
                    refine at_xseg [0, 1, 2, 3, 4, 5, 6, 7, 8, 9, 10, 11] 3 (#[true, true, true, true, true, true, true, true, true, true, true, true, false, false, false]) rfl (by kernel_rfl) [(3, .bool true), (7, str (rdA [] x461 x689)), (11, str (rdA [] x461 p104))] [0, 1, 10, 11, 118, 122, 126] (L2 := [(0, .slice A100 x461.length c101), (1, .int .i64 p104), (10, .int .i64 x572), (11, .int .i64 x689), (118, .bool true), (122, str (rdA [] x461 x689)), (126, str (rdA [] x461 p104))]) (obs := [fun _ => (.bool (decide (x572 ≤ x689)) : Value) = .bool true, fun _ => A100.isSome = true ∧ 0 ≤ x689 ∧ x689 < ((x461.length : Nat) : Int), fun w => w.cell? ((A100.getD ad0).add (x689.toNat * 1)) = some (str (rdA [] x461 x689)), fun _ => A100.isSome = true ∧ 0 ≤ p104 ∧ p104 < ((x461.length : Nat) : Int), fun w => w.cell? ((A100.getD ad0).add (p104.toNat * 1)) = some (str (rdA [] x461 p104))]) (by kernel_rfl) (by kernel_rfl) (by kernel_rfl) (.inr fun w hs => ⟨ho465.one [] x689 h694 h695 hs (k := 0) rfl, ho465.one [] p104 h109 h696 hs (k := 0) rfl⟩) (fun w hS => ⟨congrArg Value.bool (decide_eq_true h693), ⟨ho465.ne x689 h694 h695, h694, h695⟩, hS.1, ⟨ho465.ne p104 h109 h696, h109, h696⟩, hS.2⟩) (fun w hs => ⟨congrArg Value.bool (decide_eq_true h693), ⟨ho465.ne x689 h694 h695, h694, h695⟩, ho465.one [] x689 h694 h695 hs (k := 0) rfl, ⟨ho465.ne p104 h109 h696, h109, h696⟩, ho465.one [] p104 h109 h696 hs (k := 0) rfl⟩) ?_
                    refine at_x1 2 12 (#[true, true, true, true, true, true, true, true, true, true, true, true, true, false, false]) rfl (by kernel_rfl) (by kernel_rfl) rfl rfl ?_
                    obtain ⟨b7, H697, H⟩ := bind_some H
                    have hm_ := cmp_Less_string.calls (I0 := I) H697
                    refine eff_call rfl rfl ok24 rfl rfl (show Meets Try.prog 24 ([str (rdA [] x461 x689), str (rdA [] x461 p104)] : List Value).toArray _ [] _ from hm_) (Mr := (s464 :: Fs)) (List.Perm.refl _) (fun v698 J699 M700 hq701 hJ702 => ?_)
                    replace hle := hle.trans hJ702
                    replace ho465 := ho465.mono hJ702
                    obtain ⟨rfl, rfl⟩ := hq701
                    refine at_xS (fun w hs => ⟨ho465.one [] x689 h694 h695 hs (k := 0) rfl, ho465.one [] p104 h109 h696 hs (k := 0) rfl⟩) ?_
                    refine at_xseg [13, 14] 0 (#[true, true, true, true, true, true, true, true, true, true, true, true, true, true, true]) rfl (by kernel_rfl) [] [0, 1, 10, 11, 129] (L2 := [(0, .slice A100 x461.length c101), (1, .int .i64 p104), (10, .int .i64 x572), (11, .int .i64 x689), (129, .bool (!b7))]) (obs := []) (by kernel_rfl) (by kernel_rfl) (by kernel_rfl) (.inr fun w hs => ⟨ho465.one [] x689 h694 h695 hs (k := 0) rfl, ho465.one [] p104 h109 h696 hs (k := 0) rfl⟩) (fun w hS => trivial) (fun w hs => trivial) ?_
                    refine at_xend (by kernel_rfl) ?_
                    refine at_thn ?_
                    by_cases h703 : b7 = true
                    · rw [if_pos h703] at H
                      refine at_cond_f rfl (not_ff (h703)) ?_
                      refine at_exit ?_
                      refine at_then_exit ?_
                      refine at_then_exit ?_
                      refine at_in_hit ?_
                      refine at_thn ?_
                      refine at_keep [0, 1, 10, 11] (L2 := [(0, .slice A100 x461.length c101), (1, .int .i64 p104), (10, .int .i64 x572), (11, .int .i64 x689)]) rfl ?_
                      exact Jn575 _ _ _ ⟨_, x689, rfl, rfl, H, hle, by omega, ho465⟩
                    · rw [if_neg h703] at H
                      refine at_cond_t rfl (not_tt (ff_of h703)) ?_
                      refine at_skip ?_
                      refine at_thn ?_
                      refine at_block ?_
                      refine at_reg [] [0, 1, 10, 11] (L2 := [(0, .slice A100 x461.length c101), (1, .int .i64 p104), (10, .int .i64 x572), (11, .int .i64 (IntKind.i64.wrap (x689 - 1)))]) (obs := []) (by kernel_rfl) ?_ ?_
                      · intro w hs; exact trivial
                      refine at_in_norm ?_
                      refine at_thn ?_
                      refine at_keep [0, 1, 10, 11] (L2 := [(0, .slice A100 x461.length c101), (1, .int .i64 p104), (10, .int .i64 x572), (11, .int .i64 (IntKind.i64.wrap (x689 - 1)))]) rfl ?_
                      exact ih691 _ (by omega) _ _ _ ⟨IntKind.i64.wrap (x689 - 1), rfl, rfl, H, hle, by omega, ho465⟩
                  · rw [if_neg h693] at H
                    refine at_x hmo (fun w => True) [] ?_
                    refine at_xseg [0, 1, 2, 3, 4, 5, 6, 7, 8, 9, 10, 11] 3 (#[true, true, true, true, true, true, true, true, true, true, true, true, false, false, false]) rfl (by kernel_rfl) [(3, .bool false)] [0, 1, 10, 11, 118, 122, 126] (L2 := [(0, .slice A100 x461.length c101), (1, .int .i64 p104), (10, .int .i64 x572), (11, .int .i64 x689), (118, .bool false), (122, undef), (126, undef)]) (obs := [fun _ => (.bool (decide (x572 ≤ x689)) : Value) = .bool false]) (by kernel_rfl) (by kernel_rfl) (by kernel_rfl) (.inr fun w hs => trivial) (fun w hS => congrArg Value.bool (decide_eq_false h693)) (fun w hs => congrArg Value.bool (decide_eq_false h693)) ?_
                    refine at_xseg [12, 13, 14] 0 (#[true, true, true, true, true, true, true, true, true, true, true, true, true, true, true]) rfl (by kernel_rfl) [] [0, 1, 10, 11, 129] (L2 := [(0, .slice A100 x461.length c101), (1, .int .i64 p104), (10, .int .i64 x572), (11, .int .i64 x689), (129, .bool false)]) (obs := []) (by kernel_rfl) (by kernel_rfl) (by kernel_rfl) (.inr fun w hs => trivial) (fun w hS => trivial) (fun w hs => trivial) ?_
                    refine at_xend (by kernel_rfl) ?_
                    refine at_thn ?_
                    refine at_cond_f rfl (rfl) ?_
                    refine at_exit ?_
                    refine at_then_exit ?_
                    refine at_then_exit ?_
                    refine at_in_hit ?_
                    refine at_thn ?_
                    refine at_keep [0, 1, 10, 11] (L2 := [(0, .slice A100 x461.length c101), (1, .int .i64 p104), (10, .int .i64 x572), (11, .int .i64 x689)]) rfl ?_
                    exact Jn575 _ _ _ ⟨_, x689, rfl, rfl, H, hle, by omega, ho465⟩
            · intro Jn471
              refine at_block ?_
              refine at_keep [0, 1, 10, 11] (L2 := [(0, .slice A100 x461.length c101), (1, .int .i64 p104), (10, .int .i64 x466), (11, .int .i64 x467)]) rfl ?_
              refine at_loop (fun k705 L I Ms => ∃ (x704 : Int), L = [(0, .slice A100 x461.length c101), (1, .int .i64 p104), (10, .int .i64 x704), (11, .int .i64 x467)] ∧ Ms = (s464 :: Fs) ∧ slices_partitionOrdered_string_l2 k705 x704 p99 p104 x461 x467 = some r ∧ ImmLe I0 I ∧ k705 ≤ k468 ∧ Own Kd.string 9 I A100 c101 x461 s464) ?_ ?_ k468 ⟨x466, rfl, rfl, H, hle, Nat.le_refl _, ho465⟩
              · rintro L I Ms ⟨_, rfl, rfl, H, _⟩; exact no_none H
              · clear H hle ho465
                intro k705 ih706 L I Ms h_; obtain ⟨x704, hL_, hM_, H, hle, hk707, ho465⟩ := h_; rw [hL_, hM_]; clear hL_ hM_ L Ms
                rw [slices_partitionOrdered_string_l2] at H
                refine at_seq ?_
                refine at_seq ?_
                by_cases h708 : x704 ≤ x467
                · rw [if_pos h708] at H
                  obtain ⟨h709, H⟩ := ite_some H
                  obtain ⟨h710, H⟩ := ite_some H
                  obtain ⟨h711, H⟩ := ite_some H
                  refine at_x hmo (fun w => w.cell? ((A100.getD ad0).add (x704.toNat * 1)) = some (str (rdA [] x461 x704)) ∧ w.cell? ((A100.getD ad0).add (p104.toNat * 1)) = some (str (rdA [] x461 p104))) [] ?_
                  refine at_xseg [0, 1, 2, 3, 4, 5, 6, 7, 8, 9, 10, 11] 2 (#[true, true, true, true, true, true, true, true, true, true, true, true, false, false]) rfl (by kernel_rfl) [(3, .bool true), (7, str (rdA [] x461 x704)), (11, str (rdA [] x461 p104))] [0, 1, 10, 11, 102, 106, 110] (L2 := [(0, .slice A100 x461.length c101), (1, .int .i64 p104), (10, .int .i64 x704), (11, .int .i64 x467), (102, .bool true), (106, str (rdA [] x461 x704)), (110, str (rdA [] x461 p104))]) (obs := [fun _ => (.bool (decide (x704 ≤ x467)) : Value) = .bool true, fun _ => A100.isSome = true ∧ 0 ≤ x704 ∧ x704 < ((x461.length : Nat) : Int), fun w => w.cell? ((A100.getD ad0).add (x704.toNat * 1)) = some (str (rdA [] x461 x704)), fun _ => A100.isSome = true ∧ 0 ≤ p104 ∧ p104 < ((x461.length : Nat) : Int), fun w => w.cell? ((A100.getD ad0).add (p104.toNat * 1)) = some (str (rdA [] x461 p104))]) (by kernel_rfl) (by kernel_rfl) (by kernel_rfl) (.inr fun w hs => ⟨ho465.one [] x704 h709 h710 hs (k := 0) rfl, ho465.one [] p104 h109 h711 hs (k := 0) rfl⟩) (fun w hS => ⟨congrArg Value.bool (decide_eq_true h708), ⟨ho465.ne x704 h709 h710, h709, h710⟩, hS.1, ⟨ho465.ne p104 h109 h711, h109, h711⟩, hS.2⟩) (fun w hs => ⟨congrArg Value.bool (decide_eq_true h708), ⟨ho465.ne x704 h709 h710, h709, h710⟩, ho465.one [] x704 h709 h710 hs (k := 0) rfl, ⟨ho465.ne p104 h109 h711, h109, h711⟩, ho465.one [] p104 h109 h711 hs (k := 0) rfl⟩) ?_
                  refine at_x1 1 12 (#[true, true, true, true, true, true, true, true, true, true, true, true, true, false]) rfl (by kernel_rfl) (by kernel_rfl) rfl rfl ?_
                  obtain ⟨b8, H712, H⟩ := bind_some H
                  have hm_ := cmp_Less_string.calls (I0 := I) H712
                  refine eff_call rfl rfl ok24 rfl rfl (show Meets Try.prog 24 ([str (rdA [] x461 x704), str (rdA [] x461 p104)] : List Value).toArray _ [] _ from hm_) (Mr := (s464 :: Fs)) (List.Perm.refl _) (fun v713 J714 M715 hq716 hJ717 => ?_)
                  replace hle := hle.trans hJ717
                  replace ho465 := ho465.mono hJ717
                  obtain ⟨rfl, rfl⟩ := hq716
                  refine at_xS (fun w hs => ⟨ho465.one [] x704 h709 h710 hs (k := 0) rfl, ho465.one [] p104 h109 h711 hs (k := 0) rfl⟩) ?_
                  refine at_xseg [13] 0 (#[true, true, true, true, true, true, true, true, true, true, true, true, true, true]) rfl (by kernel_rfl) [] [0, 1, 10, 11, 112] (L2 := [(0, .slice A100 x461.length c101), (1, .int .i64 p104), (10, .int .i64 x704), (11, .int .i64 x467), (112, .bool b8)]) (obs := []) (by kernel_rfl) (by kernel_rfl) (by kernel_rfl) (.inr fun w hs => ⟨ho465.one [] x704 h709 h710 hs (k := 0) rfl, ho465.one [] p104 h109 h711 hs (k := 0) rfl⟩) (fun w hS => trivial) (fun w hs => trivial) ?_
                  refine at_xend (by kernel_rfl) ?_
                  refine at_thn ?_
                  by_cases h718 : b8 = true
                  · rw [if_pos h718] at H
                    refine at_cond_t rfl (h718) ?_
                    refine at_skip ?_
                    refine at_thn ?_
                    refine at_block ?_
                    refine at_reg [] [0, 1, 10, 11] (L2 := [(0, .slice A100 x461.length c101), (1, .int .i64 p104), (10, .int .i64 (IntKind.i64.wrap (x704 + 1))), (11, .int .i64 x467)]) (obs := []) (by kernel_rfl) ?_ ?_
                    · intro w hs; exact trivial
                    refine at_in_norm ?_
                    refine at_thn ?_
                    refine at_keep [0, 1, 10, 11] (L2 := [(0, .slice A100 x461.length c101), (1, .int .i64 p104), (10, .int .i64 (IntKind.i64.wrap (x704 + 1))), (11, .int .i64 x467)]) rfl ?_
                    exact ih706 _ (by omega) _ _ _ ⟨IntKind.i64.wrap (x704 + 1), rfl, rfl, H, hle, by omega, ho465⟩
                  · rw [if_neg h718] at H
                    refine at_cond_f rfl (ff_of h718) ?_
                    refine at_exit ?_
                    refine at_then_exit ?_
                    refine at_then_exit ?_
                    refine at_in_hit ?_
                    refine at_thn ?_
                    refine at_keep [0, 1, 10, 11] (L2 := [(0, .slice A100 x461.length c101), (1, .int .i64 p104), (10, .int .i64 x704), (11, .int .i64 x467)]) rfl ?_
                    exact Jn471 _ _ _ ⟨_, x704, rfl, rfl, H, hle, by omega, ho465⟩
                · rw [if_neg h708] at H
                  refine at_x hmo (fun w => True) [] ?_
                  refine at_xseg [0, 1, 2, 3, 4, 5, 6, 7, 8, 9, 10, 11] 2 (#[true, true, true, true, true, true, true, true, true, true, true, true, false, false]) rfl (by kernel_rfl) [(3, .bool false)] [0, 1, 10, 11, 102, 106, 110] (L2 := [(0, .slice A100 x461.length c101), (1, .int .i64 p104), (10, .int .i64 x704), (11, .int .i64 x467), (102, .bool false), (106, undef), (110, undef)]) (obs := [fun _ => (.bool (decide (x704 ≤ x467)) : Value) = .bool false]) (by kernel_rfl) (by kernel_rfl) (by kernel_rfl) (.inr fun w hs => trivial) (fun w hS => congrArg Value.bool (decide_eq_false h708)) (fun w hs => congrArg Value.bool (decide_eq_false h708)) ?_
                  refine at_xseg [12, 13] 0 (#[true, true, true, true, true, true, true, true, true, true, true, true, true, true]) rfl (by kernel_rfl) [] [0, 1, 10, 11, 112] (L2 := [(0, .slice A100 x461.length c101), (1, .int .i64 p104), (10, .int .i64 x704), (11, .int .i64 x467), (112, .bool false)]) (obs := []) (by kernel_rfl) (by kernel_rfl) (by kernel_rfl) (.inr fun w hs => trivial) (fun w hS => trivial) (fun w hs => trivial) ?_
                  refine at_xend (by kernel_rfl) ?_
                  refine at_thn ?_
                  refine at_cond_f rfl (rfl) ?_
                  refine at_exit ?_
                  refine at_then_exit ?_
                  refine at_then_exit ?_
                  refine at_in_hit ?_
                  refine at_thn ?_
                  refine at_keep [0, 1, 10, 11] (L2 := [(0, .slice A100 x461.length c101), (1, .int .i64 p104), (10, .int .i64 x704), (11, .int .i64 x467)]) rfl ?_
                  exact Jn471 _ _ _ ⟨_, x704, rfl, rfl, H, hle, by omega, ho465⟩
    · intro Jn220
      refine at_block ?_
      refine at_keep [0, 1, 10, 11] (L2 := [(0, .slice A100 ((p99.set p104.toNat (rdA [] p99 p106)).set p106.toNat (rdA [] p99 p104)).length c101), (1, .int .i64 p104), (10, .int .i64 x217), (11, .int .i64 (IntKind.i64.wrap (p105 - 1)))]) rfl ?_
      refine at_loop (fun k720 L I Ms => ∃ (x719 : Int), L = [(0, .slice A100 ((p99.set p104.toNat (rdA [] p99 p106)).set p106.toNat (rdA [] p99 p104)).length c101), (1, .int .i64 p104), (10, .int .i64 x217), (11, .int .i64 x719)] ∧ Ms = (s114 :: Fs) ∧ slices_partitionOrdered_string_l3 k720 x719 p99 p104 p106 x217 = some r ∧ ImmLe I0 I ∧ k720 ≤ k218 ∧ Own Kd.string 9 I A100 c101 ((p99.set p104.toNat (rdA [] p99 p106)).set p106.toNat (rdA [] p99 p104)) s114) ?_ ?_ k218 ⟨IntKind.i64.wrap (p105 - 1), rfl, rfl, H, hle, Nat.le_refl _, ho115⟩
      · rintro L I Ms ⟨_, rfl, rfl, H, _⟩; exact no_none H
      · clear H hle ho115
        intro k720 ih721 L I Ms h_; obtain ⟨x719, hL_, hM_, H, hle, hk722, ho115⟩ := h_; rw [hL_, hM_]; clear hL_ hM_ L Ms
        rw [slices_partitionOrdered_string_l3] at H
        refine at_seq ?_
        refine at_seq ?_
        by_cases h723 : x217 ≤ x719
        · rw [if_pos h723] at H
          obtain ⟨h724, H⟩ := ite_some H
          obtain ⟨h725, H⟩ := ite_some H
          obtain ⟨h726, H⟩ := ite_some H
          refine at_x hmo (fun w => w.cell? ((A100.getD ad0).add (x719.toNat * 1)) = some (str (rdA [] ((p99.set p104.toNat (rdA [] p99 p106)).set p106.toNat (rdA [] p99 p104)) x719)) ∧ w.cell? ((A100.getD ad0).add (p104.toNat * 1)) = some (str (rdA [] ((p99.set p104.toNat (rdA [] p99 p106)).set p106.toNat (rdA [] p99 p104)) p104))) [] ?_
          refine at_xseg [0, 1, 2, 3, 4, 5, 6, 7, 8, 9, 10, 11] 3 (#[true, true, true, true, true, true, true, true, true, true, true, true, false, false, false]) rfl (by kernel_rfl) [(3, .bool true), (7, str (rdA [] ((p99.set p104.toNat (rdA [] p99 p106)).set p106.toNat (rdA [] p99 p104)) x719)), (11, str (rdA [] ((p99.set p104.toNat (rdA [] p99 p106)).set p106.toNat (rdA [] p99 p104)) p104))] [0, 1, 10, 11, 49, 53, 57] (L2 := [(0, .slice A100 ((p99.set p104.toNat (rdA [] p99 p106)).set p106.toNat (rdA [] p99 p104)).length c101), (1, .int .i64 p104), (10, .int .i64 x217), (11, .int .i64 x719), (49, .bool true), (53, str (rdA [] ((p99.set p104.toNat (rdA [] p99 p106)).set p106.toNat (rdA [] p99 p104)) x719)), (57, str (rdA [] ((p99.set p104.toNat (rdA [] p99 p106)).set p106.toNat (rdA [] p99 p104)) p104))]) (obs := [fun _ => (.bool (decide (x217 ≤ x719)) : Value) = .bool true, fun _ => A100.isSome = true ∧ 0 ≤ x719 ∧ x719 < ((((p99.set p104.toNat (rdA [] p99 p106)).set p106.toNat (rdA [] p99 p104)).length : Nat) : Int), fun w => w.cell? ((A100.getD ad0).add (x719.toNat * 1)) = some (str (rdA [] ((p99.set p104.toNat (rdA [] p99 p106)).set p106.toNat (rdA [] p99 p104)) x719)), fun _ => A100.isSome = true ∧ 0 ≤ p104 ∧ p104 < ((((p99.set p104.toNat (rdA [] p99 p106)).set p106.toNat (rdA [] p99 p104)).length : Nat) : Int), fun w => w.cell? ((A100.getD ad0).add (p104.toNat * 1)) = some (str (rdA [] ((p99.set p104.toNat (rdA [] p99 p106)).set p106.toNat (rdA [] p99 p104)) p104))]) (by kernel_rfl) (by kernel_rfl) (by kernel_rfl) (.inr fun w hs => ⟨ho115.one [] x719 h724 h725 hs (k := 0) rfl, ho115.one [] p104 h109 h726 hs (k := 0) rfl⟩) (fun w hS => ⟨congrArg Value.bool (decide_eq_true h723), ⟨ho115.ne x719 h724 h725, h724, h725⟩, hS.1, ⟨ho115.ne p104 h109 h726, h109, h726⟩, hS.2⟩) (fun w hs => ⟨congrArg Value.bool (decide_eq_true h723), ⟨ho115.ne x719 h724 h725, h724, h725⟩, ho115.one [] x719 h724 h725 hs (k := 0) rfl, ⟨ho115.ne p104 h109 h726, h109, h726⟩, ho115.one [] p104 h109 h726 hs (k := 0) rfl⟩) ?_
          refine at_x1 2 12 (#[true, true, true, true, true, true, true, true, true, true, true, true, true, false, false]) rfl (by kernel_rfl) (by kernel_rfl) rfl rfl ?_
          obtain ⟨b9, H727, H⟩ := bind_some H
          have hm_ := cmp_Less_string.calls (I0 := I) H727
          refine eff_call rfl rfl ok24 rfl rfl (show Meets Try.prog 24 ([str (rdA [] ((p99.set p104.toNat (rdA [] p99 p106)).set p106.toNat (rdA [] p99 p104)) x719), str (rdA [] ((p99.set p104.toNat (rdA [] p99 p106)).set p106.toNat (rdA [] p99 p104)) p104)] : List Value).toArray _ [] _ from hm_) (Mr := (s114 :: Fs)) (List.Perm.refl _) (fun v728 J729 M730 hq731 hJ732 => ?_)
          replace hle := hle.trans hJ732
          replace ho115 := ho115.mono hJ732
          obtain ⟨rfl, rfl⟩ := hq731
          refine at_xS (fun w hs => ⟨ho115.one [] x719 h724 h725 hs (k := 0) rfl, ho115.one [] p104 h109 h726 hs (k := 0) rfl⟩) ?_
          refine at_xseg [13, 14] 0 (#[true, true, true, true, true, true, true, true, true, true, true, true, true, true, true]) rfl (by kernel_rfl) [] [0, 1, 10, 11, 60] (L2 := [(0, .slice A100 ((p99.set p104.toNat (rdA [] p99 p106)).set p106.toNat (rdA [] p99 p104)).length c101), (1, .int .i64 p104), (10, .int .i64 x217), (11, .int .i64 x719), (60, .bool (!b9))]) (obs := []) (by kernel_rfl) (by kernel_rfl) (by kernel_rfl) (.inr fun w hs => ⟨ho115.one [] x719 h724 h725 hs (k := 0) rfl, ho115.one [] p104 h109 h726 hs (k := 0) rfl⟩) (fun w hS => trivial) (fun w hs => trivial) ?_
          refine at_xend (by kernel_rfl) ?_
          refine at_thn ?_
          by_cases h733 : b9 = true
          · rw [if_pos h733] at H
            refine at_cond_f rfl (not_ff (h733)) ?_
            refine at_exit ?_
            refine at_then_exit ?_
            refine at_then_exit ?_
            refine at_in_hit ?_
            refine at_thn ?_
            refine at_keep [0, 1, 10, 11] (L2 := [(0, .slice A100 ((p99.set p104.toNat (rdA [] p99 p106)).set p106.toNat (rdA [] p99 p104)).length c101), (1, .int .i64 p104), (10, .int .i64 x217), (11, .int .i64 x719)]) rfl ?_
            exact Jn220 _ _ _ ⟨_, x719, rfl, rfl, H, hle, by omega, ho115⟩
          · rw [if_neg h733] at H
            refine at_cond_t rfl (not_tt (ff_of h733)) ?_
            refine at_skip ?_
            refine at_thn ?_
            refine at_block ?_
            refine at_reg [] [0, 1, 10, 11] (L2 := [(0, .slice A100 ((p99.set p104.toNat (rdA [] p99 p106)).set p106.toNat (rdA [] p99 p104)).length c101), (1, .int .i64 p104), (10, .int .i64 x217), (11, .int .i64 (IntKind.i64.wrap (x719 - 1)))]) (obs := []) (by kernel_rfl) ?_ ?_
            · intro w hs; exact trivial
            refine at_in_norm ?_
            refine at_thn ?_
            refine at_keep [0, 1, 10, 11] (L2 := [(0, .slice A100 ((p99.set p104.toNat (rdA [] p99 p106)).set p106.toNat (rdA [] p99 p104)).length c101), (1, .int .i64 p104), (10, .int .i64 x217), (11, .int .i64 (IntKind.i64.wrap (x719 - 1)))]) rfl ?_
            exact ih721 _ (by omega) _ _ _ ⟨IntKind.i64.wrap (x719 - 1), rfl, rfl, H, hle, by omega, ho115⟩
        · rw [if_neg h723] at H
          refine at_x hmo (fun w => True) [] ?_
          refine at_xseg [0, 1, 2, 3, 4, 5, 6, 7, 8, 9, 10, 11] 3 (#[true, true, true, true, true, true, true, true, true, true, true, true, false, false, false]) rfl (by kernel_rfl) [(3, .bool false)] [0, 1, 10, 11, 49, 53, 57] (L2 := [(0, .slice A100 ((p99.set p104.toNat (rdA [] p99 p106)).set p106.toNat (rdA [] p99 p104)).length c101), (1, .int .i64 p104), (10, .int .i64 x217), (11, .int .i64 x719), (49, .bool false), (53, undef), (57, undef)]) (obs := [fun _ => (.bool (decide (x217 ≤ x719)) : Value) = .bool false]) (by kernel_rfl) (by kernel_rfl) (by kernel_rfl) (.inr fun w hs => trivial) (fun w hS => congrArg Value.bool (decide_eq_false h723)) (fun w hs => congrArg Value.bool (decide_eq_false h723)) ?_
          refine at_xseg [12, 13, 14] 0 (#[true, true, true, true, true, true, true, true, true, true, true, true, true, true, true]) rfl (by kernel_rfl) [] [0, 1, 10, 11, 60] (L2 := [(0, .slice A100 ((p99.set p104.toNat (rdA [] p99 p106)).set p106.toNat (rdA [] p99 p104)).length c101), (1, .int .i64 p104), (10, .int .i64 x217), (11, .int .i64 x719), (60, .bool false)]) (obs := []) (by kernel_rfl) (by kernel_rfl) (by kernel_rfl) (.inr fun w hs => trivial) (fun w hS => trivial) (fun w hs => trivial) ?_
          refine at_xend (by kernel_rfl) ?_
          refine at_thn ?_
          refine at_cond_f rfl (rfl) ?_
          refine at_exit ?_
          refine at_then_exit ?_
          refine at_then_exit ?_
          refine at_in_hit ?_
          refine at_thn ?_
          refine at_keep [0, 1, 10, 11] (L2 := [(0, .slice A100 ((p99.set p104.toNat (rdA [] p99 p106)).set p106.toNat (rdA [] p99 p104)).length c101), (1, .int .i64 p104), (10, .int .i64 x217), (11, .int .i64 x719)]) rfl ?_
          exact Jn220 _ _ _ ⟨_, x719, rfl, rfl, H, hle, by omega, ho115⟩
  · intro Jn116
    refine at_block ?_
    refine at_keep [0, 1, 10, 11] (L2 := [(0, .slice A100 ((p99.set p104.toNat (rdA [] p99 p106)).set p106.toNat (rdA [] p99 p104)).length c101), (1, .int .i64 p104), (10, .int .i64 (IntKind.i64.wrap (p104 + 1))), (11, .int .i64 (IntKind.i64.wrap (p105 - 1)))]) rfl ?_
    refine at_loop (fun k735 L I Ms => ∃ (x734 : Int), L = [(0, .slice A100 ((p99.set p104.toNat (rdA [] p99 p106)).set p106.toNat (rdA [] p99 p104)).length c101), (1, .int .i64 p104), (10, .int .i64 x734), (11, .int .i64 (IntKind.i64.wrap (p105 - 1)))] ∧ Ms = (s114 :: Fs) ∧ slices_partitionOrdered_string_l4 k735 x734 p99 p104 p105 p106 = some r ∧ ImmLe I0 I ∧ k735 ≤ k ∧ Own Kd.string 9 I A100 c101 ((p99.set p104.toNat (rdA [] p99 p106)).set p106.toNat (rdA [] p99 p104)) s114) ?_ ?_ k ⟨IntKind.i64.wrap (p104 + 1), rfl, rfl, H, hle, Nat.le_refl _, ho115⟩
    · rintro L I Ms ⟨_, rfl, rfl, H, _⟩; exact no_none H
    · clear H hle ho115
      intro k735 ih736 L I Ms h_; obtain ⟨x734, hL_, hM_, H, hle, hk737, ho115⟩ := h_; rw [hL_, hM_]; clear hL_ hM_ L Ms
      rw [slices_partitionOrdered_string_l4] at H
      refine at_seq ?_
      refine at_seq ?_
      by_cases h738 : x734 ≤ (IntKind.i64.wrap (p105 - 1))
      · rw [if_pos h738] at H
        obtain ⟨h739, H⟩ := ite_some H
        obtain ⟨h740, H⟩ := ite_some H
        obtain ⟨h741, H⟩ := ite_some H
        refine at_x hmo (fun w => w.cell? ((A100.getD ad0).add (x734.toNat * 1)) = some (str (rdA [] ((p99.set p104.toNat (rdA [] p99 p106)).set p106.toNat (rdA [] p99 p104)) x734)) ∧ w.cell? ((A100.getD ad0).add (p104.toNat * 1)) = some (str (rdA [] ((p99.set p104.toNat (rdA [] p99 p106)).set p106.toNat (rdA [] p99 p104)) p104))) [] ?_
        refine at_xseg [0, 1, 2, 3, 4, 5, 6, 7, 8, 9, 10, 11] 2 (#[true, true, true, true, true, true, true, true, true, true, true, true, false, false]) rfl (by kernel_rfl) [(3, .bool true), (7, str (rdA [] ((p99.set p104.toNat (rdA [] p99 p106)).set p106.toNat (rdA [] p99 p104)) x734)), (11, str (rdA [] ((p99.set p104.toNat (rdA [] p99 p106)).set p106.toNat (rdA [] p99 p104)) p104))] [0, 1, 10, 11, 33, 37, 41] (L2 := [(0, .slice A100 ((p99.set p104.toNat (rdA [] p99 p106)).set p106.toNat (rdA [] p99 p104)).length c101), (1, .int .i64 p104), (10, .int .i64 x734), (11, .int .i64 (IntKind.i64.wrap (p105 - 1))), (33, .bool true), (37, str (rdA [] ((p99.set p104.toNat (rdA [] p99 p106)).set p106.toNat (rdA [] p99 p104)) x734)), (41, str (rdA [] ((p99.set p104.toNat (rdA [] p99 p106)).set p106.toNat (rdA [] p99 p104)) p104))]) (obs := [fun _ => (.bool (decide (x734 ≤ (IntKind.i64.wrap (p105 - 1)))) : Value) = .bool true, fun _ => A100.isSome = true ∧ 0 ≤ x734 ∧ x734 < ((((p99.set p104.toNat (rdA [] p99 p106)).set p106.toNat (rdA [] p99 p104)).length : Nat) : Int), fun w => w.cell? ((A100.getD ad0).add (x734.toNat * 1)) = some (str (rdA [] ((p99.set p104.toNat (rdA [] p99 p106)).set p106.toNat (rdA [] p99 p104)) x734)), fun _ => A100.isSome = true ∧ 0 ≤ p104 ∧ p104 < ((((p99.set p104.toNat (rdA [] p99 p106)).set p106.toNat (rdA [] p99 p104)).length : Nat) : Int), fun w => w.cell? ((A100.getD ad0).add (p104.toNat * 1)) = some (str (rdA [] ((p99.set p104.toNat (rdA [] p99 p106)).set p106.toNat (rdA [] p99 p104)) p104))]) (by kernel_rfl) (by kernel_rfl) (by kernel_rfl) (.inr fun w hs => ⟨ho115.one [] x734 h739 h740 hs (k := 0) rfl, ho115.one [] p104 h109 h741 hs (k := 0) rfl⟩) (fun w hS => ⟨congrArg Value.bool (decide_eq_true h738), ⟨ho115.ne x734 h739 h740, h739, h740⟩, hS.1, ⟨ho115.ne p104 h109 h741, h109, h741⟩, hS.2⟩) (fun w hs => ⟨congrArg Value.bool (decide_eq_true h738), ⟨ho115.ne x734 h739 h740, h739, h740⟩, ho115.one [] x734 h739 h740 hs (k := 0) rfl, ⟨ho115.ne p104 h109 h741, h109, h741⟩, ho115.one [] p104 h109 h741 hs (k := 0) rfl⟩) ?_
        refine at_x1 1 12 (#[true, true, true, true, true, true, true, true, true, true, true, true, true, false]) rfl (by kernel_rfl) (by kernel_rfl) rfl rfl ?_
        obtain ⟨b10, H742, H⟩ := bind_some H
        have hm_ := cmp_Less_string.calls (I0 := I) H742
        refine eff_call rfl rfl ok24 rfl rfl (show Meets Try.prog 24 ([str (rdA [] ((p99.set p104.toNat (rdA [] p99 p106)).set p106.toNat (rdA [] p99 p104)) x734), str (rdA [] ((p99.set p104.toNat (rdA [] p99 p106)).set p106.toNat (rdA [] p99 p104)) p104)] : List Value).toArray _ [] _ from hm_) (Mr := (s114 :: Fs)) (List.Perm.refl _) (fun v743 J744 M745 hq746 hJ747 => ?_)
        replace hle := hle.trans hJ747
        replace ho115 := ho115.mono hJ747
        obtain ⟨rfl, rfl⟩ := hq746
        refine at_xS (fun w hs => ⟨ho115.one [] x734 h739 h740 hs (k := 0) rfl, ho115.one [] p104 h109 h741 hs (k := 0) rfl⟩) ?_
        refine at_xseg [13] 0 (#[true, true, true, true, true, true, true, true, true, true, true, true, true, true]) rfl (by kernel_rfl) [] [0, 1, 10, 11, 43] (L2 := [(0, .slice A100 ((p99.set p104.toNat (rdA [] p99 p106)).set p106.toNat (rdA [] p99 p104)).length c101), (1, .int .i64 p104), (10, .int .i64 x734), (11, .int .i64 (IntKind.i64.wrap (p105 - 1))), (43, .bool b10)]) (obs := []) (by kernel_rfl) (by kernel_rfl) (by kernel_rfl) (.inr fun w hs => ⟨ho115.one [] x734 h739 h740 hs (k := 0) rfl, ho115.one [] p104 h109 h741 hs (k := 0) rfl⟩) (fun w hS => trivial) (fun w hs => trivial) ?_
        refine at_xend (by kernel_rfl) ?_
        refine at_thn ?_
        by_cases h748 : b10 = true
        · rw [if_pos h748] at H
          refine at_cond_t rfl (h748) ?_
          refine at_skip ?_
          refine at_thn ?_
          refine at_block ?_
          refine at_reg [] [0, 1, 10, 11] (L2 := [(0, .slice A100 ((p99.set p104.toNat (rdA [] p99 p106)).set p106.toNat (rdA [] p99 p104)).length c101), (1, .int .i64 p104), (10, .int .i64 (IntKind.i64.wrap (x734 + 1))), (11, .int .i64 (IntKind.i64.wrap (p105 - 1)))]) (obs := []) (by kernel_rfl) ?_ ?_
          · intro w hs; exact trivial
          refine at_in_norm ?_
          refine at_thn ?_
          refine at_keep [0, 1, 10, 11] (L2 := [(0, .slice A100 ((p99.set p104.toNat (rdA [] p99 p106)).set p106.toNat (rdA [] p99 p104)).length c101), (1, .int .i64 p104), (10, .int .i64 (IntKind.i64.wrap (x734 + 1))), (11, .int .i64 (IntKind.i64.wrap (p105 - 1)))]) rfl ?_
          exact ih736 _ (by omega) _ _ _ ⟨IntKind.i64.wrap (x734 + 1), rfl, rfl, H, hle, by omega, ho115⟩
        · rw [if_neg h748] at H
          refine at_cond_f rfl (ff_of h748) ?_
          refine at_exit ?_
          refine at_then_exit ?_
          refine at_then_exit ?_
          refine at_in_hit ?_
          refine at_thn ?_
          refine at_keep [0, 1, 10, 11] (L2 := [(0, .slice A100 ((p99.set p104.toNat (rdA [] p99 p106)).set p106.toNat (rdA [] p99 p104)).length c101), (1, .int .i64 p104), (10, .int .i64 x734), (11, .int .i64 (IntKind.i64.wrap (p105 - 1)))]) rfl ?_
          exact Jn116 _ _ _ ⟨_, x734, rfl, rfl, H, hle, by omega, ho115⟩
      · rw [if_neg h738] at H
        refine at_x hmo (fun w => True) [] ?_
        refine at_xseg [0, 1, 2, 3, 4, 5, 6, 7, 8, 9, 10, 11] 2 (#[true, true, true, true, true, true, true, true, true, true, true, true, false, false]) rfl (by kernel_rfl) [(3, .bool false)] [0, 1, 10, 11, 33, 37, 41] (L2 := [(0, .slice A100 ((p99.set p104.toNat (rdA [] p99 p106)).set p106.toNat (rdA [] p99 p104)).length c101), (1, .int .i64 p104), (10, .int .i64 x734), (11, .int .i64 (IntKind.i64.wrap (p105 - 1))), (33, .bool false), (37, undef), (41, undef)]) (obs := [fun _ => (.bool (decide (x734 ≤ (IntKind.i64.wrap (p105 - 1)))) : Value) = .bool false]) (by kernel_rfl) (by kernel_rfl) (by kernel_rfl) (.inr fun w hs => trivial) (fun w hS => congrArg Value.bool (decide_eq_false h738)) (fun w hs => congrArg Value.bool (decide_eq_false h738)) ?_
        refine at_xseg [12, 13] 0 (#[true, true, true, true, true, true, true, true, true, true, true, true, true, true]) rfl (by kernel_rfl) [] [0, 1, 10, 11, 43] (L2 := [(0, .slice A100 ((p99.set p104.toNat (rdA [] p99 p106)).set p106.toNat (rdA [] p99 p104)).length c101), (1, .int .i64 p104), (10, .int .i64 x734), (11, .int .i64 (IntKind.i64.wrap (p105 - 1))), (43, .bool false)]) (obs := []) (by kernel_rfl) (by kernel_rfl) (by kernel_rfl) (.inr fun w hs => trivial) (fun w hS => trivial) (fun w hs => trivial) ?_
        refine at_xend (by kernel_rfl) ?_
        refine at_thn ?_
        refine at_cond_f rfl (rfl) ?_
        refine at_exit ?_
        refine at_then_exit ?_
        refine at_then_exit ?_
        refine at_in_hit ?_
        refine at_thn ?_
        refine at_keep [0, 1, 10, 11] (L2 := [(0, .slice A100 ((p99.set p104.toNat (rdA [] p99 p106)).set p106.toNat (rdA [] p99 p104)).length c101), (1, .int .i64 p104), (10, .int .i64 x734), (11, .int .i64 (IntKind.i64.wrap (p105 - 1)))]) rfl ?_
        exact Jn116 _ _ _ ⟨_, x734, rfl, rfl, H, hle, by omega, ho115⟩
end Go.Proofs.Ytgdbigafcjaohaa
