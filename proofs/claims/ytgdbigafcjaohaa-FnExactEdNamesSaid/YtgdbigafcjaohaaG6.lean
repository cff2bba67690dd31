import Derived.Test.YtgdbigafcjaohaaG5
namespace Go.Proofs.Ytgdbigafcjaohaa
open Go Eng
set_option linter.unusedVariables false
set_option linter.unusedSimpArgs false
/-! ### slices.partitionEqualOrdered[string]: function 25 -/
mutual
def slices_partitionEqualOrdered_string_l0 : Nat → (List (List UInt8)) → Int → Int → (List (List UInt8)) → Int → Option (Int × (List (List UInt8)))
  | 0, _, _, _, _, _ => none
  | k + 1, x118, x123, x124, p101, p106 => slices_partitionEqualOrdered_string_l2 k x123 p101 p106 x118 x124
def slices_partitionEqualOrdered_string_l2 : Nat → Int → (List (List UInt8)) → Int → (List (List UInt8)) → Int → Option (Int × (List (List UInt8)))
  | 0, _, _, _, _, _ => none
  | k + 1, x362, p101, p106, x118, x124 => if x362 ≤ x124 then (if p106 < (x118.length : Int) then (if 0 ≤ x362 then (if x362 < (x118.length : Int) then ((cmp_Less_string (rdA [] x118 p106) (rdA [] x118 x362)).bind fun b8 => (if b8 = true then (slices_partitionEqualOrdered_string_j0 k x362 p101 p106 x118 x124) else (slices_partitionEqualOrdered_string_l2 k (IntKind.i64.wrap (x362 + 1)) p101 p106 x118 x124))) else none) else none) else none) else (slices_partitionEqualOrdered_string_j0 k x362 p101 p106 x118 x124)
def slices_partitionEqualOrdered_string_j0 : Nat → Int → (List (List UInt8)) → Int → (List (List UInt8)) → Int → Option (Int × (List (List UInt8)))
  | 0, _, _, _, _, _ => none
  | k + 1, x229, p101, p106, x118, x124 => slices_partitionEqualOrdered_string_l1 k x124 p101 p106 x118 x229
def slices_partitionEqualOrdered_string_l1 : Nat → Int → (List (List UInt8)) → Int → (List (List UInt8)) → Int → Option (Int × (List (List UInt8)))
  | 0, _, _, _, _, _ => none
  | k + 1, x347, p101, p106, x118, x229 => if x229 ≤ x347 then (if p106 < (x118.length : Int) then (if 0 ≤ x347 then (if x347 < (x118.length : Int) then ((cmp_Less_string (rdA [] x118 p106) (rdA [] x118 x347)).bind fun b7 => (if b7 = true then (slices_partitionEqualOrdered_string_l1 k (IntKind.i64.wrap (x347 - 1)) p101 p106 x118 x229) else (slices_partitionEqualOrdered_string_j1 k x347 p101 p106 x118 x229))) else none) else none) else none) else (slices_partitionEqualOrdered_string_j1 k x347 p101 p106 x118 x229)
def slices_partitionEqualOrdered_string_j1 : Nat → Int → (List (List UInt8)) → Int → (List (List UInt8)) → Int → Option (Int × (List (List UInt8)))
  | 0, _, _, _, _, _ => none
  | k + 1, x333, p101, p106, x118, x229 => if x229 > x333 then (if x118.length = p101.length then (some (x229, x118)) else none) else (if 0 ≤ x333 then (if x333 < (x118.length : Int) then (if 0 ≤ x229 then (if x229 < (x118.length : Int) then (if x333 < ((x118.set x229.toNat (rdA [] x118 x333)).length : Int) then (slices_partitionEqualOrdered_string_l0 k ((x118.set x229.toNat (rdA [] x118 x333)).set x333.toNat (rdA [] x118 x229)) (IntKind.i64.wrap (x229 + 1)) (IntKind.i64.wrap (x333 - 1)) p101 p106) else none) else none) else none) else none) else none)
end
def slices_partitionEqualOrdered_string (k : Nat) (p101 : List (List UInt8)) (p106 : Int) (p107 : Int) (p108 : Int) : Option (Int × (List (List UInt8))) := if 0 ≤ p108 then (if p108 < (p101.length : Int) then (if 0 ≤ p106 then (if p106 < (p101.length : Int) then (if p108 < ((p101.set p106.toNat (rdA [] p101 p108)).length : Int) then (slices_partitionEqualOrdered_string_l0 k ((p101.set p106.toNat (rdA [] p101 p108)).set p108.toNat (rdA [] p101 p106)) (IntKind.i64.wrap (p106 + 1)) (IntKind.i64.wrap (p107 - 1)) p101 p106) else none) else none) else none) else none) else none
set_option maxHeartbeats 4000000 in
set_option maxRecDepth 100000 in
theorem slices_partitionEqualOrdered_string.calls {k : Nat} {p101 : List (List UInt8)} {p106 : Int} {p107 : Int} {p108 : Int} {r : Int × (List (List UInt8))} {I0 : Imm} {A102 : Option Addr} {c103 : Nat} {s104 : Seg} (H : slices_partitionEqualOrdered_string k p101 p106 p107 p108 = some r) (ho105 : Own Kd.string 9 I0 A102 c103 p101 s104) :
    Meets Try.prog 25 ([.slice A102 p101.length c103, .int .i64 p106, .int .i64 p107, .int .i64 p108] : List Value).toArray I0 [s104] (fun v J M => ∃ (s_1 : Seg), v = .int .i64 r.1 ∧ M = [s_1] ∧ Own Kd.string 9 J A102 c103 r.2 s_1 ∧ r.2.length = p101.length) := by
  have hle := ImmLe.refl I0
  unfold slices_partitionEqualOrdered_string at H
  refine fn_intro (fn := Try.f25) 84 Try.func25 rfl rfl rfl (fun E Fs => ?_)
  refine at_seq ?_
  refine at_reg [] [0, 1, 2, 3] (L2 := [(0, .slice A102 p101.length c103), (1, .int .i64 p106), (2, .int .i64 p107), (3, .int .i64 p108)]) (obs := []) (by kernel_rfl) ?_ ?_
  · intro w hs; exact trivial
  refine at_thn ?_
  refine at_seq ?_
  obtain ⟨h109, H⟩ := ite_some H
  obtain ⟨h110, H⟩ := ite_some H
  obtain ⟨h111, H⟩ := ite_some H
  obtain ⟨h112, H⟩ := ite_some H
  refine at_x hmo (fun w => w.cell? ((A102.getD ad0).add (p108.toNat * 1)) = some (str (rdA [] p101 p108)) ∧ w.cell? ((A102.getD ad0).add (p106.toNat * 1)) = some (str (rdA [] p101 p106))) [13, 15] ?_
  refine at_xseg [0, 1, 2, 3, 4, 5, 6, 7, 8, 9, 10, 11, 12] 3 (#[true, true, true, true, true, true, true, true, true, true, true, true, true, false, false, false]) rfl (by kernel_rfl) [(7, str (rdA [] p101 p108)), (11, str (rdA [] p101 p106))] [0, 1, 2, 13, 14, 18, 22, 23] (L2 := [(0, .slice A102 p101.length c103), (1, .int .i64 p106), (2, .int .i64 p107), (13, .slice A102 p101.length c103), (14, .int .i64 p108), (18, str (rdA [] p101 p108)), (22, str (rdA [] p101 p106)), (23, .pointer (some ((A102.getD ad0).add (p106.toNat * 1))))]) (obs := [fun _ => A102.isSome = true ∧ 0 ≤ p108 ∧ p108 < ((p101.length : Nat) : Int), fun w => w.cell? ((A102.getD ad0).add (p108.toNat * 1)) = some (str (rdA [] p101 p108)), fun _ => A102.isSome = true ∧ 0 ≤ p106 ∧ p106 < ((p101.length : Nat) : Int), fun w => w.cell? ((A102.getD ad0).add (p106.toNat * 1)) = some (str (rdA [] p101 p106)), fun _ => A102.isSome = true ∧ 0 ≤ p106 ∧ p106 < ((p101.length : Nat) : Int)]) (by kernel_rfl) (by kernel_rfl) (by kernel_rfl) (.inr fun w hs => ⟨ho105.one [] p108 h109 h110 hs (k := 0) rfl, ho105.one [] p106 h111 h112 hs (k := 0) rfl⟩) (fun w hS => ⟨⟨ho105.ne p108 h109 h110, h109, h110⟩, hS.1, ⟨ho105.ne p106 h111 h112, h111, h112⟩, hS.2, ⟨ho105.ne p106 h111 h112, h111, h112⟩⟩) (fun w hs => ⟨⟨ho105.ne p108 h109 h110, h109, h110⟩, ho105.one [] p108 h109 h110 hs (k := 0) rfl, ⟨ho105.ne p106 h111 h112, h111, h112⟩, ho105.one [] p106 h111 h112 hs (k := 0) rfl, ⟨ho105.ne p106 h111 h112, h111, h112⟩⟩) ?_
  refine at_x1 2 13 (#[true, true, true, true, true, true, true, true, true, true, true, true, true, true, false, false]) rfl (by kernel_rfl) (by kernel_rfl) rfl rfl ?_
  refine eff_storeOwn (K := Kd.string) (u := rdA [] p101 p108) 0 0 [] p106 rfl rfl rfl rfl ho105 rfl h111 h112 (add0 _).symm rfl (Nat.le_of_ble_eq_true (by kernel_rfl)) rfl (by rintro cs_ rfl; rfl) (fun s113 ho114 => ?_)
  refine at_eqL2 (L1 := [(0, .slice A102 p101.length c103), (1, .int .i64 p106), (2, .int .i64 p107), (13, .slice A102 p101.length c103), (14, .int .i64 p108), (18, str (rdA [] p101 p108)), (22, str (rdA [] p101 p106)), (23, .pointer (some ((A102.getD ad0).add (p106.toNat * 1))))]) (L2 := [(0, .slice A102 (p101.set p106.toNat (rdA [] p101 p108)).length c103), (1, .int .i64 p106), (2, .int .i64 p107), (13, .slice A102 (p101.set p106.toNat (rdA [] p101 p108)).length c103), (14, .int .i64 p108), (18, str (rdA [] p101 p108)), (22, str (rdA [] p101 p106)), (23, .pointer (some ((A102.getD ad0).add (p106.toNat * 1))))]) rfl (by simp only [List.length_set]) ?_
  refine at_xX (by kernel_rfl) ?_
  obtain ⟨h115, H⟩ := ite_some H
  refine at_xseg [14] 1 (#[true, true, true, true, true, true, true, true, true, true, true, true, true, true, true, false]) rfl (by kernel_rfl) [] [0, 1, 2, 22, 24] (L2 := [(0, .slice A102 (p101.set p106.toNat (rdA [] p101 p108)).length c103), (1, .int .i64 p106), (2, .int .i64 p107), (22, str (rdA [] p101 p106)), (24, .pointer (some ((A102.getD ad0).add (p108.toNat * 1))))]) (obs := [fun _ => A102.isSome = true ∧ 0 ≤ p108 ∧ p108 < (((p101.set p106.toNat (rdA [] p101 p108)).length : Nat) : Int)]) (by kernel_rfl) (by kernel_rfl) (by kernel_rfl) (.inl (by kernel_rfl)) (fun w hS => ⟨ho114.ne p108 h109 h115, h109, h115⟩) (fun w hs => ⟨ho114.ne p108 h109 h115, h109, h115⟩) ?_
  refine at_x1 0 15 (#[true, true, true, true, true, true, true, true, true, true, true, true, true, true, true, true]) rfl (by kernel_rfl) (by kernel_rfl) rfl rfl ?_
  refine eff_storeOwn (K := Kd.string) (u := rdA [] p101 p106) 0 0 [] p108 rfl rfl rfl rfl ho114 rfl h109 h115 (add0 _).symm rfl (Nat.le_of_ble_eq_true (by kernel_rfl)) rfl (by rintro cs_ rfl; rfl) (fun s116 ho117 => ?_)
  refine at_eqL2 (L1 := [(0, .slice A102 (p101.set p106.toNat (rdA [] p101 p108)).length c103), (1, .int .i64 p106), (2, .int .i64 p107), (22, str (rdA [] p101 p106)), (24, .pointer (some ((A102.getD ad0).add (p108.toNat * 1))))]) (L2 := [(0, .slice A102 ((p101.set p106.toNat (rdA [] p101 p108)).set p108.toNat (rdA [] p101 p106)).length c103), (1, .int .i64 p106), (2, .int .i64 p107), (22, str (rdA [] p101 p106)), (24, .pointer (some ((A102.getD ad0).add (p108.toNat * 1))))]) rfl (by simp only [List.length_set]) ?_
  refine at_xX (by kernel_rfl) ?_
  refine at_xend (by kernel_rfl) ?_
  refine at_thn ?_
  refine at_seq ?_
  refine at_reg [] [0, 1, 9, 10] (L2 := [(0, .slice A102 ((p101.set p106.toNat (rdA [] p101 p108)).set p108.toNat (rdA [] p101 p106)).length c103), (1, .int .i64 p106), (9, .int .i64 (IntKind.i64.wrap (p106 + 1))), (10, .int .i64 (IntKind.i64.wrap (p107 - 1)))]) (obs := []) (by kernel_rfl) ?_ ?_
  · intro w hs; exact trivial
  refine at_thn ?_
  refine at_seq ?_
  refine at_block ?_
  refine at_keep [0, 1, 9, 10] (L2 := [(0, .slice A102 ((p101.set p106.toNat (rdA [] p101 p108)).set p108.toNat (rdA [] p101 p106)).length c103), (1, .int .i64 p106), (9, .int .i64 (IntKind.i64.wrap (p106 + 1))), (10, .int .i64 (IntKind.i64.wrap (p107 - 1)))]) rfl ?_
  refine at_loop (fun k125 L I Ms => ∃ (x118 : List (List UInt8)) (s121 : Seg) (x123 : Int) (x124 : Int), L = [(0, .slice A102 x118.length c103), (1, .int .i64 p106), (9, .int .i64 x123), (10, .int .i64 x124)] ∧ Ms = (s121 :: Fs) ∧ slices_partitionEqualOrdered_string_l0 k125 x118 x123 x124 p101 p106 = some r ∧ ImmLe I0 I ∧ k125 ≤ k ∧ Own Kd.string 9 I A102 c103 x118 s121) ?_ ?_ k ⟨(p101.set p106.toNat (rdA [] p101 p108)).set p108.toNat (rdA [] p101 p106), s116, IntKind.i64.wrap (p106 + 1), IntKind.i64.wrap (p107 - 1), rfl, rfl, H, hle, Nat.le_refl _, ho117⟩
  · rintro L I Ms ⟨_, _, _, _, rfl, rfl, H, _⟩; exact no_none H
  · clear H hle ho117
    intro k125 ih126 L I Ms h_; obtain ⟨x118, s121, x123, x124, hL_, hM_, H, hle, hk127, ho122⟩ := h_; rw [hL_, hM_]; clear hL_ hM_ L Ms
    rw [slices_partitionEqualOrdered_string_l0] at H
    refine at_block ?_
    refine at_join (fun L I Ms => ∃ (k230 : Nat), ∃ (x229 : Int), L = [(0, .slice A102 x118.length c103), (1, .int .i64 p106), (9, .int .i64 x229), (10, .int .i64 x124)] ∧ Ms = (s121 :: Fs) ∧ slices_partitionEqualOrdered_string_j0 k230 x229 p101 p106 x118 x124 = some r ∧ ImmLe I0 I ∧ k230 ≤ k125 ∧ Own Kd.string 9 I A102 c103 x118 s121) ?_ ?_
    · clear H hle ho122
      intro L I Ms h_; obtain ⟨k230, x229, hL_, hM_, H, hle, hk231, ho122⟩ := h_; rw [hL_, hM_]; clear hL_ hM_ L Ms
      rcases k230 with _ | k230
      · exact (no_none H).elim
      rw [slices_partitionEqualOrdered_string_j0] at H
      refine at_join (fun L I Ms => ∃ (k334 : Nat), ∃ (x333 : Int), L = [(0, .slice A102 x118.length c103), (1, .int .i64 p106), (9, .int .i64 x229), (10, .int .i64 x333)] ∧ Ms = (s121 :: Fs) ∧ slices_partitionEqualOrdered_string_j1 k334 x333 p101 p106 x118 x229 = some r ∧ ImmLe I0 I ∧ k334 ≤ k230 ∧ Own Kd.string 9 I A102 c103 x118 s121) ?_ ?_
      · clear H hle ho122
        intro L I Ms h_; obtain ⟨k334, x333, hL_, hM_, H, hle, hk335, ho122⟩ := h_; rw [hL_, hM_]; clear hL_ hM_ L Ms
        rcases k334 with _ | k334
        · exact (no_none H).elim
        rw [slices_partitionEqualOrdered_string_j1] at H
        refine at_seq ?_
        refine at_seq ?_
        refine at_reg [] [0, 1, 9, 10, 64] (L2 := [(0, .slice A102 x118.length c103), (1, .int .i64 p106), (9, .int .i64 x229), (10, .int .i64 x333), (64, .bool (decide (x229 > x333)))]) (obs := []) (by kernel_rfl) ?_ ?_
        · intro w hs; exact trivial
        refine at_thn ?_
        by_cases h336 : x229 > x333
        · rw [if_pos h336] at H
          refine at_cond_t rfl (decide_eq_true h336) ?_
          refine at_exit ?_
          refine at_then_exit ?_
          refine at_in_miss (by decide) ?_
          refine at_then_exit ?_
          refine at_in_hit ?_
          refine at_thn ?_
          refine at_seq ?_
          refine at_reg [] [0, 8] (L2 := [(0, .slice A102 x118.length c103), (8, .int .i64 x229)]) (obs := []) (by kernel_rfl) ?_ ?_
          · intro w hs; exact trivial
          refine at_thn ?_
          refine at_ret ?_
          obtain ⟨h337, H⟩ := ite_some H
          obtain rfl := Option.some.inj H
          refine at_done (vs := [.int .i64 x229]) (obs := []) (.inl rfl) [.tmp 8] [] rfl (by kernel_rfl) (fun w hs => trivial) (fun w hs => ⟨_, _, [s121], rfl, ⟨s121, rfl, rfl, ho122, h337⟩, hle, hs⟩)
        · rw [if_neg h336] at H
          refine at_cond_f rfl (decide_eq_false h336) ?_
          refine at_skip ?_
          refine at_thn ?_
          refine at_seq ?_
          obtain ⟨h338, H⟩ := ite_some H
          obtain ⟨h339, H⟩ := ite_some H
          obtain ⟨h340, H⟩ := ite_some H
          obtain ⟨h341, H⟩ := ite_some H
          refine at_x hmo (fun w => w.cell? ((A102.getD ad0).add (x333.toNat * 1)) = some (str (rdA [] x118 x333)) ∧ w.cell? ((A102.getD ad0).add (x229.toNat * 1)) = some (str (rdA [] x118 x229))) [13, 15] ?_
          refine at_xseg [0, 1, 2, 3, 4, 5, 6, 7, 8, 9, 10, 11, 12] 3 (#[true, true, true, true, true, true, true, true, true, true, true, true, true, false, false, false]) rfl (by kernel_rfl) [(7, str (rdA [] x118 x333)), (11, str (rdA [] x118 x229))] [0, 1, 9, 10, 67, 68, 72, 76, 77] (L2 := [(0, .slice A102 x118.length c103), (1, .int .i64 p106), (9, .int .i64 x229), (10, .int .i64 x333), (67, .slice A102 x118.length c103), (68, .int .i64 x333), (72, str (rdA [] x118 x333)), (76, str (rdA [] x118 x229)), (77, .pointer (some ((A102.getD ad0).add (x229.toNat * 1))))]) (obs := [fun _ => A102.isSome = true ∧ 0 ≤ x333 ∧ x333 < ((x118.length : Nat) : Int), fun w => w.cell? ((A102.getD ad0).add (x333.toNat * 1)) = some (str (rdA [] x118 x333)), fun _ => A102.isSome = true ∧ 0 ≤ x229 ∧ x229 < ((x118.length : Nat) : Int), fun w => w.cell? ((A102.getD ad0).add (x229.toNat * 1)) = some (str (rdA [] x118 x229)), fun _ => A102.isSome = true ∧ 0 ≤ x229 ∧ x229 < ((x118.length : Nat) : Int)]) (by kernel_rfl) (by kernel_rfl) (by kernel_rfl) (.inr fun w hs => ⟨ho122.one [] x333 h338 h339 hs (k := 0) rfl, ho122.one [] x229 h340 h341 hs (k := 0) rfl⟩) (fun w hS => ⟨⟨ho122.ne x333 h338 h339, h338, h339⟩, hS.1, ⟨ho122.ne x229 h340 h341, h340, h341⟩, hS.2, ⟨ho122.ne x229 h340 h341, h340, h341⟩⟩) (fun w hs => ⟨⟨ho122.ne x333 h338 h339, h338, h339⟩, ho122.one [] x333 h338 h339 hs (k := 0) rfl, ⟨ho122.ne x229 h340 h341, h340, h341⟩, ho122.one [] x229 h340 h341 hs (k := 0) rfl, ⟨ho122.ne x229 h340 h341, h340, h341⟩⟩) ?_
          refine at_x1 2 13 (#[true, true, true, true, true, true, true, true, true, true, true, true, true, true, false, false]) rfl (by kernel_rfl) (by kernel_rfl) rfl rfl ?_
          refine eff_storeOwn (K := Kd.string) (u := rdA [] x118 x333) 0 0 [] x229 rfl rfl rfl rfl ho122 rfl h340 h341 (add0 _).symm rfl (Nat.le_of_ble_eq_true (by kernel_rfl)) rfl (by rintro cs_ rfl; rfl) (fun s342 ho343 => ?_)
          refine at_eqL2 (L1 := [(0, .slice A102 x118.length c103), (1, .int .i64 p106), (9, .int .i64 x229), (10, .int .i64 x333), (67, .slice A102 x118.length c103), (68, .int .i64 x333), (72, str (rdA [] x118 x333)), (76, str (rdA [] x118 x229)), (77, .pointer (some ((A102.getD ad0).add (x229.toNat * 1))))]) (L2 := [(0, .slice A102 (x118.set x229.toNat (rdA [] x118 x333)).length c103), (1, .int .i64 p106), (9, .int .i64 x229), (10, .int .i64 x333), (67, .slice A102 (x118.set x229.toNat (rdA [] x118 x333)).length c103), (68, .int .i64 x333), (72, str (rdA [] x118 x333)), (76, str (rdA [] x118 x229)), (77, .pointer (some ((A102.getD ad0).add (x229.toNat * 1))))]) rfl (by simp only [List.length_set]) ?_
          refine at_xX (by kernel_rfl) ?_
          obtain ⟨h344, H⟩ := ite_some H
          refine at_xseg [14] 1 (#[true, true, true, true, true, true, true, true, true, true, true, true, true, true, true, false]) rfl (by kernel_rfl) [] [0, 1, 9, 10, 76, 78] (L2 := [(0, .slice A102 (x118.set x229.toNat (rdA [] x118 x333)).length c103), (1, .int .i64 p106), (9, .int .i64 x229), (10, .int .i64 x333), (76, str (rdA [] x118 x229)), (78, .pointer (some ((A102.getD ad0).add (x333.toNat * 1))))]) (obs := [fun _ => A102.isSome = true ∧ 0 ≤ x333 ∧ x333 < (((x118.set x229.toNat (rdA [] x118 x333)).length : Nat) : Int)]) (by kernel_rfl) (by kernel_rfl) (by kernel_rfl) (.inl (by kernel_rfl)) (fun w hS => ⟨ho343.ne x333 h338 h344, h338, h344⟩) (fun w hs => ⟨ho343.ne x333 h338 h344, h338, h344⟩) ?_
          refine at_x1 0 15 (#[true, true, true, true, true, true, true, true, true, true, true, true, true, true, true, true]) rfl (by kernel_rfl) (by kernel_rfl) rfl rfl ?_
          refine eff_storeOwn (K := Kd.string) (u := rdA [] x118 x229) 0 0 [] x333 rfl rfl rfl rfl ho343 rfl h338 h344 (add0 _).symm rfl (Nat.le_of_ble_eq_true (by kernel_rfl)) rfl (by rintro cs_ rfl; rfl) (fun s345 ho346 => ?_)
          refine at_eqL2 (L1 := [(0, .slice A102 (x118.set x229.toNat (rdA [] x118 x333)).length c103), (1, .int .i64 p106), (9, .int .i64 x229), (10, .int .i64 x333), (76, str (rdA [] x118 x229)), (78, .pointer (some ((A102.getD ad0).add (x333.toNat * 1))))]) (L2 := [(0, .slice A102 ((x118.set x229.toNat (rdA [] x118 x333)).set x333.toNat (rdA [] x118 x229)).length c103), (1, .int .i64 p106), (9, .int .i64 x229), (10, .int .i64 x333), (76, str (rdA [] x118 x229)), (78, .pointer (some ((A102.getD ad0).add (x333.toNat * 1))))]) rfl (by simp only [List.length_set]) ?_
          refine at_xX (by kernel_rfl) ?_
          refine at_xend (by kernel_rfl) ?_
          refine at_thn ?_
          refine at_seq ?_
          refine at_reg [] [0, 1, 9, 10] (L2 := [(0, .slice A102 ((x118.set x229.toNat (rdA [] x118 x333)).set x333.toNat (rdA [] x118 x229)).length c103), (1, .int .i64 p106), (9, .int .i64 (IntKind.i64.wrap (x229 + 1))), (10, .int .i64 x333)]) (obs := []) (by kernel_rfl) ?_ ?_
          · intro w hs; exact trivial
          refine at_thn ?_
          refine at_reg [] [0, 1, 9, 10] (L2 := [(0, .slice A102 ((x118.set x229.toNat (rdA [] x118 x333)).set x333.toNat (rdA [] x118 x229)).length c103), (1, .int .i64 p106), (9, .int .i64 (IntKind.i64.wrap (x229 + 1))), (10, .int .i64 (IntKind.i64.wrap (x333 - 1)))]) (obs := []) (by kernel_rfl) ?_ ?_
          · intro w hs; exact trivial
          refine at_in_norm ?_
          refine at_thn ?_
          refine at_keep [0, 1, 9, 10] (L2 := [(0, .slice A102 ((x118.set x229.toNat (rdA [] x118 x333)).set x333.toNat (rdA [] x118 x229)).length c103), (1, .int .i64 p106), (9, .int .i64 (IntKind.i64.wrap (x229 + 1))), (10, .int .i64 (IntKind.i64.wrap (x333 - 1)))]) rfl ?_
          exact ih126 _ (by omega) _ _ _ ⟨(x118.set x229.toNat (rdA [] x118 x333)).set x333.toNat (rdA [] x118 x229), s345, IntKind.i64.wrap (x229 + 1), IntKind.i64.wrap (x333 - 1), rfl, rfl, H, hle, by omega, ho346⟩
      · intro Jn232
        refine at_block ?_
        refine at_keep [0, 1, 9, 10] (L2 := [(0, .slice A102 x118.length c103), (1, .int .i64 p106), (9, .int .i64 x229), (10, .int .i64 x124)]) rfl ?_
        refine at_loop (fun k348 L I Ms => ∃ (x347 : Int), L = [(0, .slice A102 x118.length c103), (1, .int .i64 p106), (9, .int .i64 x229), (10, .int .i64 x347)] ∧ Ms = (s121 :: Fs) ∧ slices_partitionEqualOrdered_string_l1 k348 x347 p101 p106 x118 x229 = some r ∧ ImmLe I0 I ∧ k348 ≤ k230 ∧ Own Kd.string 9 I A102 c103 x118 s121) ?_ ?_ k230 ⟨x124, rfl, rfl, H, hle, Nat.le_refl _, ho122⟩
        · rintro L I Ms ⟨_, rfl, rfl, H, _⟩; exact no_none H
        · clear H hle ho122
          intro k348 ih349 L I Ms h_; obtain ⟨x347, hL_, hM_, H, hle, hk350, ho122⟩ := h_; rw [hL_, hM_]; clear hL_ hM_ L Ms
          rw [slices_partitionEqualOrdered_string_l1] at H
          refine at_seq ?_
          refine at_seq ?_
          by_cases h351 : x229 ≤ x347
          · rw [if_pos h351] at H
            obtain ⟨h352, H⟩ := ite_some H
            obtain ⟨h353, H⟩ := ite_some H
            obtain ⟨h354, H⟩ := ite_some H
            refine at_x hmo (fun w => w.cell? ((A102.getD ad0).add (p106.toNat * 1)) = some (str (rdA [] x118 p106)) ∧ w.cell? ((A102.getD ad0).add (x347.toNat * 1)) = some (str (rdA [] x118 x347))) [] ?_
            refine at_xseg [0, 1, 2, 3, 4, 5, 6, 7, 8, 9, 10, 11] 2 (#[true, true, true, true, true, true, true, true, true, true, true, true, false, false]) rfl (by kernel_rfl) [(3, .bool true), (7, str (rdA [] x118 p106)), (11, str (rdA [] x118 x347))] [0, 1, 9, 10, 49, 53, 57] (L2 := [(0, .slice A102 x118.length c103), (1, .int .i64 p106), (9, .int .i64 x229), (10, .int .i64 x347), (49, .bool true), (53, str (rdA [] x118 p106)), (57, str (rdA [] x118 x347))]) (obs := [fun _ => (.bool (decide (x229 ≤ x347)) : Value) = .bool true, fun _ => A102.isSome = true ∧ 0 ≤ p106 ∧ p106 < ((x118.length : Nat) : Int), fun w => w.cell? ((A102.getD ad0).add (p106.toNat * 1)) = some (str (rdA [] x118 p106)), fun _ => A102.isSome = true ∧ 0 ≤ x347 ∧ x347 < ((x118.length : Nat) : Int), fun w => w.cell? ((A102.getD ad0).add (x347.toNat * 1)) = some (str (rdA [] x118 x347))]) (by kernel_rfl) (by kernel_rfl) (by kernel_rfl) (.inr fun w hs => ⟨ho122.one [] p106 h111 h352 hs (k := 0) rfl, ho122.one [] x347 h353 h354 hs (k := 0) rfl⟩) (fun w hS => ⟨congrArg Value.bool (decide_eq_true h351), ⟨ho122.ne p106 h111 h352, h111, h352⟩, hS.1, ⟨ho122.ne x347 h353 h354, h353, h354⟩, hS.2⟩) (fun w hs => ⟨congrArg Value.bool (decide_eq_true h351), ⟨ho122.ne p106 h111 h352, h111, h352⟩, ho122.one [] p106 h111 h352 hs (k := 0) rfl, ⟨ho122.ne x347 h353 h354, h353, h354⟩, ho122.one [] x347 h353 h354 hs (k := 0) rfl⟩) ?_
            refine at_x1 1 12 (#[true, true, true, true, true, true, true, true, true, true, true, true, true, false]) rfl (by kernel_rfl) (by kernel_rfl) rfl rfl ?_
            obtain ⟨b7, H355, H⟩ := bind_some H
            have hm_ := cmp_Less_string.calls (I0 := I) H355
            refine eff_call rfl rfl ok24 rfl rfl (show Meets Try.prog 24 ([str (rdA [] x118 p106), str (rdA [] x118 x347)] : List Value).toArray _ [] _ from hm_) (Mr := (s121 :: Fs)) (List.Perm.refl _) (fun v356 J357 M358 hq359 hJ360 => ?_)
            replace hle := hle.trans hJ360
            replace ho122 := ho122.mono hJ360
            obtain ⟨rfl, rfl⟩ := hq359
            refine at_xS (fun w hs => ⟨ho122.one [] p106 h111 h352 hs (k := 0) rfl, ho122.one [] x347 h353 h354 hs (k := 0) rfl⟩) ?_
            refine at_xseg [13] 0 (#[true, true, true, true, true, true, true, true, true, true, true, true, true, true]) rfl (by kernel_rfl) [] [0, 1, 9, 10, 59] (L2 := [(0, .slice A102 x118.length c103), (1, .int .i64 p106), (9, .int .i64 x229), (10, .int .i64 x347), (59, .bool b7)]) (obs := []) (by kernel_rfl) (by kernel_rfl) (by kernel_rfl) (.inr fun w hs => ⟨ho122.one [] p106 h111 h352 hs (k := 0) rfl, ho122.one [] x347 h353 h354 hs (k := 0) rfl⟩) (fun w hS => trivial) (fun w hs => trivial) ?_
            refine at_xend (by kernel_rfl) ?_
            refine at_thn ?_
            by_cases h361 : b7 = true
            · rw [if_pos h361] at H
              refine at_cond_t rfl (h361) ?_
              refine at_skip ?_
              refine at_thn ?_
              refine at_block ?_
              refine at_reg [] [0, 1, 9, 10] (L2 := [(0, .slice A102 x118.length c103), (1, .int .i64 p106), (9, .int .i64 x229), (10, .int .i64 (IntKind.i64.wrap (x347 - 1)))]) (obs := []) (by kernel_rfl) ?_ ?_
              · intro w hs; exact trivial
              refine at_in_norm ?_
              refine at_thn ?_
              refine at_keep [0, 1, 9, 10] (L2 := [(0, .slice A102 x118.length c103), (1, .int .i64 p106), (9, .int .i64 x229), (10, .int .i64 (IntKind.i64.wrap (x347 - 1)))]) rfl ?_
              exact ih349 _ (by omega) _ _ _ ⟨IntKind.i64.wrap (x347 - 1), rfl, rfl, H, hle, by omega, ho122⟩
            · rw [if_neg h361] at H
              refine at_cond_f rfl (ff_of h361) ?_
              refine at_exit ?_
              refine at_then_exit ?_
              refine at_then_exit ?_
              refine at_in_hit ?_
              refine at_thn ?_
              refine at_keep [0, 1, 9, 10] (L2 := [(0, .slice A102 x118.length c103), (1, .int .i64 p106), (9, .int .i64 x229), (10, .int .i64 x347)]) rfl ?_
              exact Jn232 _ _ _ ⟨_, x347, rfl, rfl, H, hle, by omega, ho122⟩
          · rw [if_neg h351] at H
            refine at_x hmo (fun w => True) [] ?_
            refine at_xseg [0, 1, 2, 3, 4, 5, 6, 7, 8, 9, 10, 11] 2 (#[true, true, true, true, true, true, true, true, true, true, true, true, false, false]) rfl (by kernel_rfl) [(3, .bool false)] [0, 1, 9, 10, 49, 53, 57] (L2 := [(0, .slice A102 x118.length c103), (1, .int .i64 p106), (9, .int .i64 x229), (10, .int .i64 x347), (49, .bool false), (53, undef), (57, undef)]) (obs := [fun _ => (.bool (decide (x229 ≤ x347)) : Value) = .bool false]) (by kernel_rfl) (by kernel_rfl) (by kernel_rfl) (.inr fun w hs => trivial) (fun w hS => congrArg Value.bool (decide_eq_false h351)) (fun w hs => congrArg Value.bool (decide_eq_false h351)) ?_
            refine at_xseg [12, 13] 0 (#[true, true, true, true, true, true, true, true, true, true, true, true, true, true]) rfl (by kernel_rfl) [] [0, 1, 9, 10, 59] (L2 := [(0, .slice A102 x118.length c103), (1, .int .i64 p106), (9, .int .i64 x229), (10, .int .i64 x347), (59, .bool false)]) (obs := []) (by kernel_rfl) (by kernel_rfl) (by kernel_rfl) (.inr fun w hs => trivial) (fun w hS => trivial) (fun w hs => trivial) ?_
            refine at_xend (by kernel_rfl) ?_
            refine at_thn ?_
            refine at_cond_f rfl (rfl) ?_
            refine at_exit ?_
            refine at_then_exit ?_
            refine at_then_exit ?_
            refine at_in_hit ?_
            refine at_thn ?_
            refine at_keep [0, 1, 9, 10] (L2 := [(0, .slice A102 x118.length c103), (1, .int .i64 p106), (9, .int .i64 x229), (10, .int .i64 x347)]) rfl ?_
            exact Jn232 _ _ _ ⟨_, x347, rfl, rfl, H, hle, by omega, ho122⟩
    · intro Jn128
      refine at_block ?_
      refine at_keep [0, 1, 9, 10] (L2 := [(0, .slice A102 x118.length c103), (1, .int .i64 p106), (9, .int .i64 x123), (10, .int .i64 x124)]) rfl ?_
      refine at_loop (fun k363 L I Ms => ∃ (x362 : Int), L = [(0, .slice A102 x118.length c103), (1, .int .i64 p106), (9, .int .i64 x362), (10, .int .i64 x124)] ∧ Ms = (s121 :: Fs) ∧ slices_partitionEqualOrdered_string_l2 k363 x362 p101 p106 x118 x124 = some r ∧ ImmLe I0 I ∧ k363 ≤ k125 ∧ Own Kd.string 9 I A102 c103 x118 s121) ?_ ?_ k125 ⟨x123, rfl, rfl, H, hle, Nat.le_refl _, ho122⟩
      · rintro L I Ms ⟨_, rfl, rfl, H, _⟩; exact no_none H
      · clear H hle ho122
        intro k363 ih364 L I Ms h_; obtain ⟨x362, hL_, hM_, H, hle, hk365, ho122⟩ := h_; rw [hL_, hM_]; clear hL_ hM_ L Ms
        rw [slices_partitionEqualOrdered_string_l2] at H
        refine at_seq ?_
        refine at_seq ?_
        by_cases h366 : x362 ≤ x124
        · rw [if_pos h366] at H
          obtain ⟨h367, H⟩ := ite_some H
          obtain ⟨h368, H⟩ := ite_some H
          obtain ⟨h369, H⟩ := ite_some H
          refine at_x hmo (fun w => w.cell? ((A102.getD ad0).add (p106.toNat * 1)) = some (str (rdA [] x118 p106)) ∧ w.cell? ((A102.getD ad0).add (x362.toNat * 1)) = some (str (rdA [] x118 x362))) [] ?_
          refine at_xseg [0, 1, 2, 3, 4, 5, 6, 7, 8, 9, 10, 11] 3 (#[true, true, true, true, true, true, true, true, true, true, true, true, false, false, false]) rfl (by kernel_rfl) [(3, .bool true), (7, str (rdA [] x118 p106)), (11, str (rdA [] x118 x362))] [0, 1, 9, 10, 32, 36, 40] (L2 := [(0, .slice A102 x118.length c103), (1, .int .i64 p106), (9, .int .i64 x362), (10, .int .i64 x124), (32, .bool true), (36, str (rdA [] x118 p106)), (40, str (rdA [] x118 x362))]) (obs := [fun _ => (.bool (decide (x362 ≤ x124)) : Value) = .bool true, fun _ => A102.isSome = true ∧ 0 ≤ p106 ∧ p106 < ((x118.length : Nat) : Int), fun w => w.cell? ((A102.getD ad0).add (p106.toNat * 1)) = some (str (rdA [] x118 p106)), fun _ => A102.isSome = true ∧ 0 ≤ x362 ∧ x362 < ((x118.length : Nat) : Int), fun w => w.cell? ((A102.getD ad0).add (x362.toNat * 1)) = some (str (rdA [] x118 x362))]) (by kernel_rfl) (by kernel_rfl) (by kernel_rfl) (.inr fun w hs => ⟨ho122.one [] p106 h111 h367 hs (k := 0) rfl, ho122.one [] x362 h368 h369 hs (k := 0) rfl⟩) (fun w hS => ⟨congrArg Value.bool (decide_eq_true h366), ⟨ho122.ne p106 h111 h367, h111, h367⟩, hS.1, ⟨ho122.ne x362 h368 h369, h368, h369⟩, hS.2⟩) (fun w hs => ⟨congrArg Value.bool (decide_eq_true h366), ⟨ho122.ne p106 h111 h367, h111, h367⟩, ho122.one [] p106 h111 h367 hs (k := 0) rfl, ⟨ho122.ne x362 h368 h369, h368, h369⟩, ho122.one [] x362 h368 h369 hs (k := 0) rfl⟩) ?_
          refine at_x1 2 12 (#[true, true, true, true, true, true, true, true, true, true, true, true, true, false, false]) rfl (by kernel_rfl) (by kernel_rfl) rfl rfl ?_
          obtain ⟨b8, H370, H⟩ := bind_some H
          have hm_ := cmp_Less_string.calls (I0 := I) H370
          refine eff_call rfl rfl ok24 rfl rfl (show Meets Try.prog 24 ([str (rdA [] x118 p106), str (rdA [] x118 x362)] : List Value).toArray _ [] _ from hm_) (Mr := (s121 :: Fs)) (List.Perm.refl _) (fun v371 J372 M373 hq374 hJ375 => ?_)
          replace hle := hle.trans hJ375
          replace ho122 := ho122.mono hJ375
          obtain ⟨rfl, rfl⟩ := hq374
          refine at_xS (fun w hs => ⟨ho122.one [] p106 h111 h367 hs (k := 0) rfl, ho122.one [] x362 h368 h369 hs (k := 0) rfl⟩) ?_
          refine at_xseg [13, 14] 0 (#[true, true, true, true, true, true, true, true, true, true, true, true, true, true, true]) rfl (by kernel_rfl) [] [0, 1, 9, 10, 43] (L2 := [(0, .slice A102 x118.length c103), (1, .int .i64 p106), (9, .int .i64 x362), (10, .int .i64 x124), (43, .bool (!b8))]) (obs := []) (by kernel_rfl) (by kernel_rfl) (by kernel_rfl) (.inr fun w hs => ⟨ho122.one [] p106 h111 h367 hs (k := 0) rfl, ho122.one [] x362 h368 h369 hs (k := 0) rfl⟩) (fun w hS => trivial) (fun w hs => trivial) ?_
          refine at_xend (by kernel_rfl) ?_
          refine at_thn ?_
          by_cases h376 : b8 = true
          · rw [if_pos h376] at H
            refine at_cond_f rfl (not_ff (h376)) ?_
            refine at_exit ?_
            refine at_then_exit ?_
            refine at_then_exit ?_
            refine at_in_hit ?_
            refine at_thn ?_
            refine at_keep [0, 1, 9, 10] (L2 := [(0, .slice A102 x118.length c103), (1, .int .i64 p106), (9, .int .i64 x362), (10, .int .i64 x124)]) rfl ?_
            exact Jn128 _ _ _ ⟨_, x362, rfl, rfl, H, hle, by omega, ho122⟩
          · rw [if_neg h376] at H
            refine at_cond_t rfl (not_tt (ff_of h376)) ?_
            refine at_skip ?_
            refine at_thn ?_
            refine at_block ?_
            refine at_reg [] [0, 1, 9, 10] (L2 := [(0, .slice A102 x118.length c103), (1, .int .i64 p106), (9, .int .i64 (IntKind.i64.wrap (x362 + 1))), (10, .int .i64 x124)]) (obs := []) (by kernel_rfl) ?_ ?_
            · intro w hs; exact trivial
            refine at_in_norm ?_
            refine at_thn ?_
            refine at_keep [0, 1, 9, 10] (L2 := [(0, .slice A102 x118.length c103), (1, .int .i64 p106), (9, .int .i64 (IntKind.i64.wrap (x362 + 1))), (10, .int .i64 x124)]) rfl ?_
            exact ih364 _ (by omega) _ _ _ ⟨IntKind.i64.wrap (x362 + 1), rfl, rfl, H, hle, by omega, ho122⟩
        · rw [if_neg h366] at H
          refine at_x hmo (fun w => True) [] ?_
          refine at_xseg [0, 1, 2, 3, 4, 5, 6, 7, 8, 9, 10, 11] 3 (#[true, true, true, true, true, true, true, true, true, true, true, true, false, false, false]) rfl (by kernel_rfl) [(3, .bool false)] [0, 1, 9, 10, 32, 36, 40] (L2 := [(0, .slice A102 x118.length c103), (1, .int .i64 p106), (9, .int .i64 x362), (10, .int .i64 x124), (32, .bool false), (36, undef), (40, undef)]) (obs := [fun _ => (.bool (decide (x362 ≤ x124)) : Value) = .bool false]) (by kernel_rfl) (by kernel_rfl) (by kernel_rfl) (.inr fun w hs => trivial) (fun w hS => congrArg Value.bool (decide_eq_false h366)) (fun w hs => congrArg Value.bool (decide_eq_false h366)) ?_
          refine at_xseg [12, 13, 14] 0 (#[true, true, true, true, true, true, true, true, true, true, true, true, true, true, true]) rfl (by kernel_rfl) [] [0, 1, 9, 10, 43] (L2 := [(0, .slice A102 x118.length c103), (1, .int .i64 p106), (9, .int .i64 x362), (10, .int .i64 x124), (43, .bool false)]) (obs := []) (by kernel_rfl) (by kernel_rfl) (by kernel_rfl) (.inr fun w hs => trivial) (fun w hS => trivial) (fun w hs => trivial) ?_
          refine at_xend (by kernel_rfl) ?_
          refine at_thn ?_
          refine at_cond_f rfl (rfl) ?_
          refine at_exit ?_
          refine at_then_exit ?_
          refine at_then_exit ?_
          refine at_in_hit ?_
          refine at_thn ?_
          refine at_keep [0, 1, 9, 10] (L2 := [(0, .slice A102 x118.length c103), (1, .int .i64 p106), (9, .int .i64 x362), (10, .int .i64 x124)]) rfl ?_
          exact Jn128 _ _ _ ⟨_, x362, rfl, rfl, H, hle, by omega, ho122⟩
end Go.Proofs.Ytgdbigafcjaohaa
