import Derived.Test.YtgdbigafcjaohaaG8
namespace Go.Proofs.Ytgdbigafcjaohaa
open Go Eng
set_option linter.unusedVariables false
set_option linter.unusedSimpArgs false
/-! ### slices.pdqsortOrdered[string]: function 16 -/
mutual
def slices_pdqsortOrdered_string : Nat → (List (List UInt8)) → Int → Int → Int → Option (List (List UInt8))
  | 0, _, _, _, _ => none
  | k + 1, p53, p58, p59, p60 => slices_pdqsortOrdered_string_l0 k p53 p58 p59 p60 true true p53
def slices_pdqsortOrdered_string_l0 : Nat → (List (List UInt8)) → Int → Int → Int → Bool → Bool → (List (List UInt8)) → Option (List (List UInt8))
  | 0, _, _, _, _, _, _, _ => none
  | k + 1, x61, x66, x67, x68, x69, x70, p53 => if (IntKind.i64.wrap (x67 - x66)) ≤ 12 then ((slices_insertionSortOrdered_string k x61 x66 x67).bind fun b4 => (if b4.length = p53.length then (some b4) else none)) else (if x68 = 0 then ((slices_heapSortOrdered_string k x61 x66 x67).bind fun b5 => (if b5.length = p53.length then (some b5) else none)) else (if x69 = true then (slices_pdqsortOrdered_string_j0 k x61 x68 p53 x66 x67 x69 x70) else ((slices_breakPatternsOrdered_string k x61 x66 x67).bind fun b14 => (slices_pdqsortOrdered_string_j0 k b14 (IntKind.i64.wrap (x68 - 1)) p53 x66 x67 x69 x70))))
def slices_pdqsortOrdered_string_j0 : Nat → (List (List UInt8)) → Int → (List (List UInt8)) → Int → Int → Bool → Bool → Option (List (List UInt8))
  | 0, _, _, _, _, _, _, _ => none
  | k + 1, x197, x202, p53, x66, x67, x69, x70 => (slices_choosePivotOrdered_string k x197 x66 x67).bind fun b6 => (if b6.2 = 2 then ((slices_reverseRangeOrdered_string k x197 x66 x67).bind fun b13 => (slices_pdqsortOrdered_string_j1 k b13 (IntKind.i64.wrap ((IntKind.i64.wrap (x67 - 1)) - (IntKind.i64.wrap (b6.1 - x66)))) 1 p53 x66 x67 x69 x70 x202)) else (slices_pdqsortOrdered_string_j1 k x197 b6.1 b6.2 p53 x66 x67 x69 x70 x202))
def slices_pdqsortOrdered_string_j1 : Nat → (List (List UInt8)) → Int → Int → (List (List UInt8)) → Int → Int → Bool → Bool → Int → Option (List (List UInt8))
  | 0, _, _, _, _, _, _, _, _, _ => none
  | k + 1, x310, x315, x316, p53, x66, x67, x69, x70, x202 => if x69 = true then (if x70 = true then (slices_pdqsortOrdered_string_j5 k (x316 == 1) p53 x66 x67 x69 x70 x202 x310 x315) else (slices_pdqsortOrdered_string_j5 k false p53 x66 x67 x69 x70 x202 x310 x315)) else (slices_pdqsortOrdered_string_j5 k false p53 x66 x67 x69 x70 x202 x310 x315)
def slices_pdqsortOrdered_string_j5 : Nat → Bool → (List (List UInt8)) → Int → Int → Bool → Bool → Int → (List (List UInt8)) → Int → Option (List (List UInt8))
  | 0, _, _, _, _, _, _, _, _, _ => none
  | k + 1, x784, p53, x66, x67, x69, x70, x202, x310, x315 => if x784 = true then ((slices_partialInsertionSortOrdered_string k x310 x66 x67).bind fun b12 => (if b12.1 = true then (if b12.2.length = p53.length then (some b12.2) else none) else (slices_pdqsortOrdered_string_j2 k b12.2 p53 x66 x67 x69 x70 x202 x315))) else (slices_pdqsortOrdered_string_j2 k x310 p53 x66 x67 x69 x70 x202 x315)
def slices_pdqsortOrdered_string_j2 : Nat → (List (List UInt8)) → (List (List UInt8)) → Int → Int → Bool → Bool → Int → Int → Option (List (List UInt8))
  | 0, _, _, _, _, _, _, _, _ => none
  | k + 1, x420, p53, x66, x67, x69, x70, x202, x315 => if x66 > 0 then (if 0 ≤ (IntKind.i64.wrap (x66 - 1)) then (if (IntKind.i64.wrap (x66 - 1)) < (x420.length : Int) then (if 0 ≤ x315 then (if x315 < (x420.length : Int) then ((cmp_Less_string (rdA [] x420 (IntKind.i64.wrap (x66 - 1))) (rdA [] x420 x315)).bind fun b11 => (slices_pdqsortOrdered_string_j4 k (!b11) p53 x66 x67 x69 x70 x202 x315 x420)) else none) else none) else none) else none) else (slices_pdqsortOrdered_string_j4 k false p53 x66 x67 x69 x70 x202 x315 x420)
def slices_pdqsortOrdered_string_j4 : Nat → Bool → (List (List UInt8)) → Int → Int → Bool → Bool → Int → Int → (List (List UInt8)) → Option (List (List UInt8))
  | 0, _, _, _, _, _, _, _, _, _ => none
  | k + 1, x659, p53, x66, x67, x69, x70, x202, x315, x420 => if x659 = true then ((slices_partitionEqualOrdered_string k x420 x66 x67 x315).bind fun b10 => (slices_pdqsortOrdered_string_l0 k b10.2 b10.1 x67 x202 x69 x70 p53)) else (slices_pdqsortOrdered_string_j3 k p53 x66 x67 x202 x315 x420)
def slices_pdqsortOrdered_string_j3 : Nat → (List (List UInt8)) → Int → Int → Int → Int → (List (List UInt8)) → Option (List (List UInt8))
  | 0, _, _, _, _, _, _ => none
  | k + 1, p53, x66, x67, x202, x315, x420 => (slices_partitionOrdered_string k x420 x66 x67 x315).bind fun b7 => (if (IntKind.i64.wrap (b7.1 - x66)) < (IntKind.i64.wrap (x67 - b7.1)) then ((slices_pdqsortOrdered_string k b7.2.2 x66 b7.1 x202).bind fun b8 => (slices_pdqsortOrdered_string_l0 k b8 (IntKind.i64.wrap (b7.1 + 1)) x67 x202 (decide ((IntKind.i64.wrap (b7.1 - x66)) ≥ (IntKind.i64.wrap ((IntKind.i64.wrap (x67 - x66)).tdiv 8)))) b7.2.1 p53)) else ((slices_pdqsortOrdered_string k b7.2.2 (IntKind.i64.wrap (b7.1 + 1)) x67 x202).bind fun b9 => (slices_pdqsortOrdered_string_l0 k b9 x66 b7.1 x202 (decide ((IntKind.i64.wrap (x67 - b7.1)) ≥ (IntKind.i64.wrap ((IntKind.i64.wrap (x67 - x66)).tdiv 8)))) b7.2.1 p53)))
end
set_option maxHeartbeats 4000000 in
set_option maxRecDepth 100000 in
theorem slices_pdqsortOrdered_string.calls_ : ∀ (k : Nat) {p53 : List (List UInt8)} {p58 : Int} {p59 : Int} {p60 : Int} {r : (List (List UInt8))} {I0 : Imm} {A54 : Option Addr} {c55 : Nat} {s56 : Seg} (H : slices_pdqsortOrdered_string k p53 p58 p59 p60 = some r) (ho57 : Own Kd.string 9 I0 A54 c55 p53 s56),
    Meets Try.prog 16 ([.slice A54 p53.length c55, .int .i64 p58, .int .i64 p59, .int .i64 p60] : List Value).toArray I0 [s56] (fun v J M => ∃ (s_1 : Seg), v = .tuple #[] ∧ M = [s_1] ∧ Own Kd.string 9 J A54 c55 r s_1 ∧ r.length = p53.length) := by
  intro k
  induction k using Nat.strongRecOn with
  | _ k ihk =>
  intro p53 p58 p59 p60 r I0 A54 c55 s56 H ho57
  have hle := ImmLe.refl I0
  rcases k with _ | k
  · exact (no_none H).elim
  rw [slices_pdqsortOrdered_string] at H
  refine fn_intro (fn := Try.f16) 134 Try.func16 rfl rfl rfl (fun E Fs => ?_)
  refine at_seq ?_
  refine at_reg [] [0, 1, 2, 3, 8] (L2 := [(0, .slice A54 p53.length c55), (1, .int .i64 p58), (2, .int .i64 p59), (3, .int .i64 p60), (8, .bool true)]) (obs := []) (by kernel_rfl) ?_ ?_
  · intro w hs; exact trivial
  refine at_thn ?_
  refine at_seq ?_
  refine at_reg [] [0, 1, 2, 3, 8, 9] (L2 := [(0, .slice A54 p53.length c55), (1, .int .i64 p58), (2, .int .i64 p59), (3, .int .i64 p60), (8, .bool true), (9, .bool true)]) (obs := []) (by kernel_rfl) ?_ ?_
  · intro w hs; exact trivial
  refine at_thn ?_
  refine at_block ?_
  refine at_keep [0, 1, 2, 3, 8, 9] (L2 := [(0, .slice A54 p53.length c55), (1, .int .i64 p58), (2, .int .i64 p59), (3, .int .i64 p60), (8, .bool true), (9, .bool true)]) rfl ?_
  refine at_loop (fun k71 L I Ms => ∃ (x61 : List (List UInt8)) (s64 : Seg) (x66 : Int) (x67 : Int) (x68 : Int) (x69 : Bool) (x70 : Bool), L = [(0, .slice A54 x61.length c55), (1, .int .i64 x66), (2, .int .i64 x67), (3, .int .i64 x68), (8, .bool x69), (9, .bool x70)] ∧ Ms = (s64 :: Fs) ∧ slices_pdqsortOrdered_string_l0 k71 x61 x66 x67 x68 x69 x70 p53 = some r ∧ ImmLe I0 I ∧ k71 ≤ k ∧ Own Kd.string 9 I A54 c55 x61 s64) ?_ ?_ k ⟨p53, s56, p58, p59, p60, true, true, rfl, rfl, H, hle, Nat.le_refl _, ho57⟩
  · rintro L I Ms ⟨_, _, _, _, _, _, _, rfl, rfl, H, _⟩; exact no_none H
  · clear H hle ho57
    intro k71 ih72 L I Ms h_; obtain ⟨x61, s64, x66, x67, x68, x69, x70, hL_, hM_, H, hle, hk73, ho65⟩ := h_; rw [hL_, hM_]; clear hL_ hM_ L Ms
    rw [slices_pdqsortOrdered_string_l0] at H
    refine at_block ?_
    refine at_seq ?_
    refine at_reg [] [0, 1, 2, 3, 8, 9, 10] (L2 := [(0, .slice A54 x61.length c55), (1, .int .i64 x66), (2, .int .i64 x67), (3, .int .i64 x68), (8, .bool x69), (9, .bool x70), (10, .int .i64 (IntKind.i64.wrap (x67 - x66)))]) (obs := []) (by kernel_rfl) ?_ ?_
    · intro w hs; exact trivial
    refine at_thn ?_
    refine at_seq ?_
    refine at_seq ?_
    refine at_reg [] [0, 1, 2, 3, 8, 9, 10, 23] (L2 := [(0, .slice A54 x61.length c55), (1, .int .i64 x66), (2, .int .i64 x67), (3, .int .i64 x68), (8, .bool x69), (9, .bool x70), (10, .int .i64 (IntKind.i64.wrap (x67 - x66))), (23, .bool (decide ((IntKind.i64.wrap (x67 - x66)) ≤ 12)))]) (obs := []) (by kernel_rfl) ?_ ?_
    · intro w hs; exact trivial
    refine at_thn ?_
    by_cases h74 : (IntKind.i64.wrap (x67 - x66)) ≤ 12
    · rw [if_pos h74] at H
      refine at_cond_t rfl (decide_eq_true h74) ?_
      refine at_seq ?_
      refine at_ops [0, 1, 2, 3] rfl ?_
      refine at_seg [0, 1, 2] [3] rfl [] [0, 24, 25, 26] (L2 := [(0, .slice A54 x61.length c55), (24, .slice A54 x61.length c55), (25, .int .i64 x66), (26, .int .i64 x67)]) (obs := []) (by kernel_rfl) ?_ ?_
      · intro w hs; exact trivial
      refine at_eff rfl rfl ?_
      obtain ⟨b4, H75, H⟩ := bind_some H
      have hm_ := slices_insertionSortOrdered_string.calls (I0 := I) H75 ho65
      refine eff_call rfl rfl ok18 rfl rfl (show Meets Try.prog 18 ([.slice A54 x61.length c55, .int .i64 x66, .int .i64 x67] : List Value).toArray _ [s64] _ from hm_) (Mr := (Fs)) (List.Perm.refl _) (fun v76 J77 M78 hq79 hJ80 => ?_)
      replace hle := hle.trans hJ80
      replace ho65 := ho65.mono hJ80
      obtain ⟨s81, rfl, rfl, ho82, hl83⟩ := hq79
      refine at_keep [0, 24, 25, 26, 27] (L2 := [(0, .slice A54 x61.length c55), (24, .slice A54 x61.length c55), (25, .int .i64 x66), (26, .int .i64 x67), (27, undef)]) rfl ?_
      refine at_eqL2 (L1 := [(0, .slice A54 x61.length c55), (24, .slice A54 x61.length c55), (25, .int .i64 x66), (26, .int .i64 x67), (27, undef)]) (L2 := [(0, .slice A54 b4.length c55), (24, .slice A54 b4.length c55), (25, .int .i64 x66), (26, .int .i64 x67), (27, undef)]) rfl (by rw [hl83]) ?_
      refine at_end ?_
      refine at_thn ?_
      refine at_ret ?_
      refine at_then_ret ?_
      refine at_in_ret ?_
      refine at_then_ret ?_
      refine at_in_ret ?_
      obtain ⟨h84, H⟩ := ite_some H
      obtain rfl := Option.some.inj H
      refine at_done (vs := []) (obs := []) (.inl rfl) [] [] rfl (by kernel_rfl) (fun w hs => trivial) (fun w hs => ⟨_, _, [s81], rfl, ⟨s81, rfl, rfl, ho82, h84⟩, hle, hs⟩)
    · rw [if_neg h74] at H
      refine at_cond_f rfl (decide_eq_false h74) ?_
      refine at_skip ?_
      refine at_thn ?_
      refine at_seq ?_
      refine at_seq ?_
      refine at_reg [] [0, 1, 2, 3, 8, 9, 10, 29] (L2 := [(0, .slice A54 x61.length c55), (1, .int .i64 x66), (2, .int .i64 x67), (3, .int .i64 x68), (8, .bool x69), (9, .bool x70), (10, .int .i64 (IntKind.i64.wrap (x67 - x66))), (29, .bool (x68 == 0))]) (obs := []) (by kernel_rfl) ?_ ?_
      · intro w hs; exact trivial
      refine at_thn ?_
      by_cases h85 : x68 = 0
      · rw [if_pos h85] at H
        refine at_cond_t rfl (beq_iff_eq.2 h85) ?_
        refine at_seq ?_
        refine at_ops [0, 1, 2, 3] rfl ?_
        refine at_seg [0, 1, 2] [3] rfl [] [0, 30, 31, 32] (L2 := [(0, .slice A54 x61.length c55), (30, .slice A54 x61.length c55), (31, .int .i64 x66), (32, .int .i64 x67)]) (obs := []) (by kernel_rfl) ?_ ?_
        · intro w hs; exact trivial
        refine at_eff rfl rfl ?_
        obtain ⟨b5, H86, H⟩ := bind_some H
        have hm_ := slices_heapSortOrdered_string.calls (I0 := I) H86 ho65
        refine eff_call rfl rfl ok19 rfl rfl (show Meets Try.prog 19 ([.slice A54 x61.length c55, .int .i64 x66, .int .i64 x67] : List Value).toArray _ [s64] _ from hm_) (Mr := (Fs)) (List.Perm.refl _) (fun v87 J88 M89 hq90 hJ91 => ?_)
        replace hle := hle.trans hJ91
        replace ho65 := ho65.mono hJ91
        obtain ⟨s92, rfl, rfl, ho93, hl94⟩ := hq90
        refine at_keep [0, 30, 31, 32, 33] (L2 := [(0, .slice A54 x61.length c55), (30, .slice A54 x61.length c55), (31, .int .i64 x66), (32, .int .i64 x67), (33, undef)]) rfl ?_
        refine at_eqL2 (L1 := [(0, .slice A54 x61.length c55), (30, .slice A54 x61.length c55), (31, .int .i64 x66), (32, .int .i64 x67), (33, undef)]) (L2 := [(0, .slice A54 b5.length c55), (30, .slice A54 b5.length c55), (31, .int .i64 x66), (32, .int .i64 x67), (33, undef)]) rfl (by rw [hl94]) ?_
        refine at_end ?_
        refine at_thn ?_
        refine at_ret ?_
        refine at_then_ret ?_
        refine at_in_ret ?_
        refine at_then_ret ?_
        refine at_in_ret ?_
        obtain ⟨h95, H⟩ := ite_some H
        obtain rfl := Option.some.inj H
        refine at_done (vs := []) (obs := []) (.inl rfl) [] [] rfl (by kernel_rfl) (fun w hs => trivial) (fun w hs => ⟨_, _, [s92], rfl, ⟨s92, rfl, rfl, ho93, h95⟩, hle, hs⟩)
      · rw [if_neg h85] at H
        refine at_cond_f rfl (beq_eq_false_iff_ne.2 h85) ?_
        refine at_skip ?_
        refine at_thn ?_
        refine at_join (fun L I Ms => ∃ (k203 : Nat), ∃ (x197 : List (List UInt8)) (s200 : Seg) (x202 : Int), L = [(0, .slice A54 x197.length c55), (1, .int .i64 x66), (2, .int .i64 x67), (3, .int .i64 x202), (8, .bool x69), (9, .bool x70), (10, .int .i64 (IntKind.i64.wrap (x67 - x66)))] ∧ Ms = (s200 :: Fs) ∧ slices_pdqsortOrdered_string_j0 k203 x197 x202 p53 x66 x67 x69 x70 = some r ∧ ImmLe I0 I ∧ k203 ≤ k71 ∧ Own Kd.string 9 I A54 c55 x197 s200) ?_ ?_
        · clear H hle ho65
          intro L I Ms h_; obtain ⟨k203, x197, s200, x202, hL_, hM_, H, hle, hk204, ho201⟩ := h_; rw [hL_, hM_]; clear hL_ hM_ L Ms
          rcases k203 with _ | k203
          · exact (no_none H).elim
          rw [slices_pdqsortOrdered_string_j0] at H
          refine at_seq ?_
          refine at_ops [0, 1, 2, 3, 4, 5, 6, 7, 8] rfl ?_
          refine at_seg [0, 1, 2] [3, 4, 5, 6, 7, 8] rfl [] [0, 1, 2, 3, 8, 9, 10, 43, 44, 45] (L2 := [(0, .slice A54 x197.length c55), (1, .int .i64 x66), (2, .int .i64 x67), (3, .int .i64 x202), (8, .bool x69), (9, .bool x70), (10, .int .i64 (IntKind.i64.wrap (x67 - x66))), (43, .slice A54 x197.length c55), (44, .int .i64 x66), (45, .int .i64 x67)]) (obs := []) (by kernel_rfl) ?_ ?_
          · intro w hs; exact trivial
          refine at_eff rfl rfl ?_
          obtain ⟨b6, H205, H⟩ := bind_some H
          refine eff_read rfl rfl (rv := .tuple #[.int .i64 b6.1, .int .i64 b6.2]) (Ms' := (s200 :: Fs)) ok21 rfl rfl ?_ ?_
          · refine Reads.lend (k := 0) rfl (fun J206 hJ207 hin208 => ?_)
            exact Reads.of_meets (Mr := (Fs)) (show Meets Try.prog 21 ([.slice A54 x197.length c55, .int .i64 x66, .int .i64 x67] : List Value).toArray J206 [] _ from slices_choosePivotOrdered_string.calls (I0 := J206) H205 (ho201.rd hJ207 hin208)) (List.Perm.refl _)
          refine at_seg [4, 5, 6, 7, 8] [] rfl [] [0, 1, 2, 3, 8, 9, 10, 11, 12] (L2 := [(0, .slice A54 x197.length c55), (1, .int .i64 x66), (2, .int .i64 x67), (3, .int .i64 x202), (8, .bool x69), (9, .bool x70), (10, .int .i64 (IntKind.i64.wrap (x67 - x66))), (11, .int .i64 b6.1), (12, .int .i64 b6.2)]) (obs := []) (by kernel_rfl) ?_ ?_
          · intro w hs; exact trivial
          refine at_end ?_
          refine at_thn ?_
          refine at_join (fun L I Ms => ∃ (k317 : Nat), ∃ (x310 : List (List UInt8)) (s313 : Seg) (x315 : Int) (x316 : Int), L = [(0, .slice A54 x310.length c55), (1, .int .i64 x66), (2, .int .i64 x67), (3, .int .i64 x202), (8, .bool x69), (9, .bool x70), (10, .int .i64 (IntKind.i64.wrap (x67 - x66))), (11, .int .i64 x315), (12, .int .i64 x316)] ∧ Ms = (s313 :: Fs) ∧ slices_pdqsortOrdered_string_j1 k317 x310 x315 x316 p53 x66 x67 x69 x70 x202 = some r ∧ ImmLe I0 I ∧ k317 ≤ k203 ∧ Own Kd.string 9 I A54 c55 x310 s313) ?_ ?_
          · clear H hle ho201
            intro L I Ms h_; obtain ⟨k317, x310, s313, x315, x316, hL_, hM_, H, hle, hk318, ho314⟩ := h_; rw [hL_, hM_]; clear hL_ hM_ L Ms
            rcases k317 with _ | k317
            · exact (no_none H).elim
            rw [slices_pdqsortOrdered_string_j1] at H
            refine at_join (fun L I Ms => ∃ (k425 : Nat), ∃ (x420 : List (List UInt8)) (s423 : Seg), L = [(0, .slice A54 x420.length c55), (1, .int .i64 x66), (2, .int .i64 x67), (3, .int .i64 x202), (8, .bool x69), (9, .bool x70), (10, .int .i64 (IntKind.i64.wrap (x67 - x66))), (11, .int .i64 x315)] ∧ Ms = (s423 :: Fs) ∧ slices_pdqsortOrdered_string_j2 k425 x420 p53 x66 x67 x69 x70 x202 x315 = some r ∧ ImmLe I0 I ∧ k425 ≤ k317 ∧ Own Kd.string 9 I A54 c55 x420 s423) ?_ ?_
            · clear H hle ho314
              intro L I Ms h_; obtain ⟨k425, x420, s423, hL_, hM_, H, hle, hk426, ho424⟩ := h_; rw [hL_, hM_]; clear hL_ hM_ L Ms
              rcases k425 with _ | k425
              · exact (no_none H).elim
              rw [slices_pdqsortOrdered_string_j2] at H
              refine at_join (fun L I Ms => ∃ (k528 : Nat), L = [(0, .slice A54 x420.length c55), (1, .int .i64 x66), (2, .int .i64 x67), (3, .int .i64 x202), (10, .int .i64 (IntKind.i64.wrap (x67 - x66))), (11, .int .i64 x315)] ∧ Ms = (s423 :: Fs) ∧ slices_pdqsortOrdered_string_j3 k528 p53 x66 x67 x202 x315 x420 = some r ∧ ImmLe I0 I ∧ k528 ≤ k425 ∧ Own Kd.string 9 I A54 c55 x420 s423) ?_ ?_
              · clear H hle ho424
                intro L I Ms h_; obtain ⟨k528, hL_, hM_, H, hle, hk529, ho424⟩ := h_; rw [hL_, hM_]; clear hL_ hM_ L Ms
                rcases k528 with _ | k528
                · exact (no_none H).elim
                rw [slices_pdqsortOrdered_string_j3] at H
                refine at_seq ?_
                refine at_ops [0, 1, 2, 3, 4, 5, 6, 7, 8, 9] rfl ?_
                refine at_seg [0, 1, 2, 3] [4, 5, 6, 7, 8, 9] rfl [] [0, 1, 2, 3, 10, 95, 96, 97, 98] (L2 := [(0, .slice A54 x420.length c55), (1, .int .i64 x66), (2, .int .i64 x67), (3, .int .i64 x202), (10, .int .i64 (IntKind.i64.wrap (x67 - x66))), (95, .slice A54 x420.length c55), (96, .int .i64 x66), (97, .int .i64 x67), (98, .int .i64 x315)]) (obs := []) (by kernel_rfl) ?_ ?_
                · intro w hs; exact trivial
                refine at_eff rfl rfl ?_
                obtain ⟨b7, H530, H⟩ := bind_some H
                have hm_ := slices_partitionOrdered_string.calls (I0 := I) H530 ho424
                refine eff_call rfl rfl ok26 rfl rfl (show Meets Try.prog 26 ([.slice A54 x420.length c55, .int .i64 x66, .int .i64 x67, .int .i64 x315] : List Value).toArray _ [s423] _ from hm_) (Mr := (Fs)) (List.Perm.refl _) (fun v531 J532 M533 hq534 hJ535 => ?_)
                replace hle := hle.trans hJ535
                replace ho424 := ho424.mono hJ535
                obtain ⟨s536, rfl, rfl, ho537, hl538⟩ := hq534
                refine at_keep [0, 1, 2, 3, 10, 95, 96, 97, 98, 99] (L2 := [(0, .slice A54 x420.length c55), (1, .int .i64 x66), (2, .int .i64 x67), (3, .int .i64 x202), (10, .int .i64 (IntKind.i64.wrap (x67 - x66))), (95, .slice A54 x420.length c55), (96, .int .i64 x66), (97, .int .i64 x67), (98, .int .i64 x315), (99, .tuple #[.int .i64 b7.1, .bool b7.2.1])]) rfl ?_
                refine at_eqL2 (L1 := [(0, .slice A54 x420.length c55), (1, .int .i64 x66), (2, .int .i64 x67), (3, .int .i64 x202), (10, .int .i64 (IntKind.i64.wrap (x67 - x66))), (95, .slice A54 x420.length c55), (96, .int .i64 x66), (97, .int .i64 x67), (98, .int .i64 x315), (99, .tuple #[.int .i64 b7.1, .bool b7.2.1])]) (L2 := [(0, .slice A54 b7.2.2.length c55), (1, .int .i64 x66), (2, .int .i64 x67), (3, .int .i64 x202), (10, .int .i64 (IntKind.i64.wrap (x67 - x66))), (95, .slice A54 b7.2.2.length c55), (96, .int .i64 x66), (97, .int .i64 x67), (98, .int .i64 x315), (99, .tuple #[.int .i64 b7.1, .bool b7.2.1])]) rfl (by rw [hl538]) ?_
                refine at_seg [5, 6, 7, 8, 9] [] rfl [] [0, 1, 2, 3, 10, 14, 15] (L2 := [(0, .slice A54 b7.2.2.length c55), (1, .int .i64 x66), (2, .int .i64 x67), (3, .int .i64 x202), (10, .int .i64 (IntKind.i64.wrap (x67 - x66))), (14, .int .i64 b7.1), (15, .bool b7.2.1)]) (obs := []) (by kernel_rfl) ?_ ?_
                · intro w hs; exact trivial
                refine at_end ?_
                refine at_thn ?_
                refine at_seq ?_
                refine at_reg [] [0, 1, 2, 3, 9, 10, 14] (L2 := [(0, .slice A54 b7.2.2.length c55), (1, .int .i64 x66), (2, .int .i64 x67), (3, .int .i64 x202), (9, .bool b7.2.1), (10, .int .i64 (IntKind.i64.wrap (x67 - x66))), (14, .int .i64 b7.1)]) (obs := []) (by kernel_rfl) ?_ ?_
                · intro w hs; exact trivial
                refine at_thn ?_
                refine at_seq ?_
                refine at_reg [] [0, 1, 2, 3, 9, 10, 14, 16, 17] (L2 := [(0, .slice A54 b7.2.2.length c55), (1, .int .i64 x66), (2, .int .i64 x67), (3, .int .i64 x202), (9, .bool b7.2.1), (10, .int .i64 (IntKind.i64.wrap (x67 - x66))), (14, .int .i64 b7.1), (16, .int .i64 (IntKind.i64.wrap (b7.1 - x66))), (17, .int .i64 (IntKind.i64.wrap (x67 - b7.1)))]) (obs := []) (by kernel_rfl) ?_ ?_
                · intro w hs; exact trivial
                refine at_thn ?_
                refine at_seq ?_
                refine at_reg [] [0, 1, 2, 3, 9, 14, 16, 17, 18] (L2 := [(0, .slice A54 b7.2.2.length c55), (1, .int .i64 x66), (2, .int .i64 x67), (3, .int .i64 x202), (9, .bool b7.2.1), (14, .int .i64 b7.1), (16, .int .i64 (IntKind.i64.wrap (b7.1 - x66))), (17, .int .i64 (IntKind.i64.wrap (x67 - b7.1))), (18, .int .i64 (IntKind.i64.wrap ((IntKind.i64.wrap (x67 - x66)).tdiv 8)))]) (obs := [fun _ => ¬ (8 : Int) = 0]) (by kernel_rfl) ?_ ?_
                · intro w hs; exact (by decide : ¬ (8 : Int) = 0)
                refine at_thn ?_
                refine at_seq ?_
                refine at_reg [] [0, 1, 2, 3, 9, 14, 16, 17, 18, 113] (L2 := [(0, .slice A54 b7.2.2.length c55), (1, .int .i64 x66), (2, .int .i64 x67), (3, .int .i64 x202), (9, .bool b7.2.1), (14, .int .i64 b7.1), (16, .int .i64 (IntKind.i64.wrap (b7.1 - x66))), (17, .int .i64 (IntKind.i64.wrap (x67 - b7.1))), (18, .int .i64 (IntKind.i64.wrap ((IntKind.i64.wrap (x67 - x66)).tdiv 8))), (113, .bool (decide ((IntKind.i64.wrap (b7.1 - x66)) < (IntKind.i64.wrap (x67 - b7.1)))))]) (obs := []) (by kernel_rfl) ?_ ?_
                · intro w hs; exact trivial
                refine at_thn ?_
                by_cases h539 : (IntKind.i64.wrap (b7.1 - x66)) < (IntKind.i64.wrap (x67 - b7.1))
                · rw [if_pos h539] at H
                  refine at_cond_t rfl (decide_eq_true h539) ?_
                  refine at_seq ?_
                  refine at_reg [] [0, 1, 2, 3, 8, 9, 14] (L2 := [(0, .slice A54 b7.2.2.length c55), (1, .int .i64 x66), (2, .int .i64 x67), (3, .int .i64 x202), (8, .bool (decide ((IntKind.i64.wrap (b7.1 - x66)) ≥ (IntKind.i64.wrap ((IntKind.i64.wrap (x67 - x66)).tdiv 8))))), (9, .bool b7.2.1), (14, .int .i64 b7.1)]) (obs := []) (by kernel_rfl) ?_ ?_
                  · intro w hs; exact trivial
                  refine at_thn ?_
                  refine at_seq ?_
                  refine at_ops [0, 1, 2, 3, 4] rfl ?_
                  refine at_seg [0, 1, 2, 3] [4] rfl [] [0, 2, 3, 8, 9, 14, 117, 118, 119, 120] (L2 := [(0, .slice A54 b7.2.2.length c55), (2, .int .i64 x67), (3, .int .i64 x202), (8, .bool (decide ((IntKind.i64.wrap (b7.1 - x66)) ≥ (IntKind.i64.wrap ((IntKind.i64.wrap (x67 - x66)).tdiv 8))))), (9, .bool b7.2.1), (14, .int .i64 b7.1), (117, .slice A54 b7.2.2.length c55), (118, .int .i64 x66), (119, .int .i64 b7.1), (120, .int .i64 x202)]) (obs := []) (by kernel_rfl) ?_ ?_
                  · intro w hs; exact trivial
                  refine at_eff rfl rfl ?_
                  obtain ⟨b8, H540, H⟩ := bind_some H
                  have hm_ := ihk k528 (by omega) (I0 := J532) H540 ho537
                  refine eff_call rfl rfl ok16 rfl rfl (show Meets Try.prog 16 ([.slice A54 b7.2.2.length c55, .int .i64 x66, .int .i64 b7.1, .int .i64 x202] : List Value).toArray _ [s536] _ from hm_) (Mr := (Fs)) (List.Perm.refl _) (fun v541 J542 M543 hq544 hJ545 => ?_)
                  replace hle := hle.trans hJ545
                  replace ho537 := ho537.mono hJ545
                  obtain ⟨s546, rfl, rfl, ho547, hl548⟩ := hq544
                  refine at_keep [0, 2, 3, 8, 9, 14, 117, 118, 119, 120, 121] (L2 := [(0, .slice A54 b7.2.2.length c55), (2, .int .i64 x67), (3, .int .i64 x202), (8, .bool (decide ((IntKind.i64.wrap (b7.1 - x66)) ≥ (IntKind.i64.wrap ((IntKind.i64.wrap (x67 - x66)).tdiv 8))))), (9, .bool b7.2.1), (14, .int .i64 b7.1), (117, .slice A54 b7.2.2.length c55), (118, .int .i64 x66), (119, .int .i64 b7.1), (120, .int .i64 x202), (121, undef)]) rfl ?_
                  refine at_eqL2 (L1 := [(0, .slice A54 b7.2.2.length c55), (2, .int .i64 x67), (3, .int .i64 x202), (8, .bool (decide ((IntKind.i64.wrap (b7.1 - x66)) ≥ (IntKind.i64.wrap ((IntKind.i64.wrap (x67 - x66)).tdiv 8))))), (9, .bool b7.2.1), (14, .int .i64 b7.1), (117, .slice A54 b7.2.2.length c55), (118, .int .i64 x66), (119, .int .i64 b7.1), (120, .int .i64 x202), (121, undef)]) (L2 := [(0, .slice A54 b8.length c55), (2, .int .i64 x67), (3, .int .i64 x202), (8, .bool (decide ((IntKind.i64.wrap (b7.1 - x66)) ≥ (IntKind.i64.wrap ((IntKind.i64.wrap (x67 - x66)).tdiv 8))))), (9, .bool b7.2.1), (14, .int .i64 b7.1), (117, .slice A54 b8.length c55), (118, .int .i64 x66), (119, .int .i64 b7.1), (120, .int .i64 x202), (121, undef)]) rfl (by rw [hl548]) ?_
                  refine at_end ?_
                  refine at_thn ?_
                  refine at_reg [] [0, 1, 2, 3, 8, 9] (L2 := [(0, .slice A54 b8.length c55), (1, .int .i64 (IntKind.i64.wrap (b7.1 + 1))), (2, .int .i64 x67), (3, .int .i64 x202), (8, .bool (decide ((IntKind.i64.wrap (b7.1 - x66)) ≥ (IntKind.i64.wrap ((IntKind.i64.wrap (x67 - x66)).tdiv 8))))), (9, .bool b7.2.1)]) (obs := []) (by kernel_rfl) ?_ ?_
                  · intro w hs; exact trivial
                  refine at_in_norm ?_
                  refine at_thn ?_
                  refine at_keep [0, 1, 2, 3, 8, 9] (L2 := [(0, .slice A54 b8.length c55), (1, .int .i64 (IntKind.i64.wrap (b7.1 + 1))), (2, .int .i64 x67), (3, .int .i64 x202), (8, .bool (decide ((IntKind.i64.wrap (b7.1 - x66)) ≥ (IntKind.i64.wrap ((IntKind.i64.wrap (x67 - x66)).tdiv 8))))), (9, .bool b7.2.1)]) rfl ?_
                  exact ih72 _ (by omega) _ _ _ ⟨b8, s546, IntKind.i64.wrap (b7.1 + 1), x67, x202, decide ((IntKind.i64.wrap (b7.1 - x66)) ≥ (IntKind.i64.wrap ((IntKind.i64.wrap (x67 - x66)).tdiv 8))), b7.2.1, rfl, rfl, H, hle, by omega, ho547⟩
                · rw [if_neg h539] at H
                  refine at_cond_f rfl (decide_eq_false h539) ?_
                  refine at_seq ?_
                  refine at_reg [] [0, 1, 2, 3, 8, 9, 14] (L2 := [(0, .slice A54 b7.2.2.length c55), (1, .int .i64 x66), (2, .int .i64 x67), (3, .int .i64 x202), (8, .bool (decide ((IntKind.i64.wrap (x67 - b7.1)) ≥ (IntKind.i64.wrap ((IntKind.i64.wrap (x67 - x66)).tdiv 8))))), (9, .bool b7.2.1), (14, .int .i64 b7.1)]) (obs := []) (by kernel_rfl) ?_ ?_
                  · intro w hs; exact trivial
                  refine at_thn ?_
                  refine at_seq ?_
                  refine at_ops [0, 1, 2, 3, 4, 5] rfl ?_
                  refine at_seg [0, 1, 2, 3, 4] [5] rfl [] [0, 1, 3, 8, 9, 14, 127, 129, 130, 131] (L2 := [(0, .slice A54 b7.2.2.length c55), (1, .int .i64 x66), (3, .int .i64 x202), (8, .bool (decide ((IntKind.i64.wrap (x67 - b7.1)) ≥ (IntKind.i64.wrap ((IntKind.i64.wrap (x67 - x66)).tdiv 8))))), (9, .bool b7.2.1), (14, .int .i64 b7.1), (127, .slice A54 b7.2.2.length c55), (129, .int .i64 (IntKind.i64.wrap (b7.1 + 1))), (130, .int .i64 x67), (131, .int .i64 x202)]) (obs := []) (by kernel_rfl) ?_ ?_
                  · intro w hs; exact trivial
                  refine at_eff rfl rfl ?_
                  obtain ⟨b9, H549, H⟩ := bind_some H
                  have hm_ := ihk k528 (by omega) (I0 := J532) H549 ho537
                  refine eff_call rfl rfl ok16 rfl rfl (show Meets Try.prog 16 ([.slice A54 b7.2.2.length c55, .int .i64 (IntKind.i64.wrap (b7.1 + 1)), .int .i64 x67, .int .i64 x202] : List Value).toArray _ [s536] _ from hm_) (Mr := (Fs)) (List.Perm.refl _) (fun v550 J551 M552 hq553 hJ554 => ?_)
                  replace hle := hle.trans hJ554
                  replace ho537 := ho537.mono hJ554
                  obtain ⟨s555, rfl, rfl, ho556, hl557⟩ := hq553
                  refine at_keep [0, 1, 3, 8, 9, 14, 127, 129, 130, 131, 132] (L2 := [(0, .slice A54 b7.2.2.length c55), (1, .int .i64 x66), (3, .int .i64 x202), (8, .bool (decide ((IntKind.i64.wrap (x67 - b7.1)) ≥ (IntKind.i64.wrap ((IntKind.i64.wrap (x67 - x66)).tdiv 8))))), (9, .bool b7.2.1), (14, .int .i64 b7.1), (127, .slice A54 b7.2.2.length c55), (129, .int .i64 (IntKind.i64.wrap (b7.1 + 1))), (130, .int .i64 x67), (131, .int .i64 x202), (132, undef)]) rfl ?_
                  refine at_eqL2 (L1 := [(0, .slice A54 b7.2.2.length c55), (1, .int .i64 x66), (3, .int .i64 x202), (8, .bool (decide ((IntKind.i64.wrap (x67 - b7.1)) ≥ (IntKind.i64.wrap ((IntKind.i64.wrap (x67 - x66)).tdiv 8))))), (9, .bool b7.2.1), (14, .int .i64 b7.1), (127, .slice A54 b7.2.2.length c55), (129, .int .i64 (IntKind.i64.wrap (b7.1 + 1))), (130, .int .i64 x67), (131, .int .i64 x202), (132, undef)]) (L2 := [(0, .slice A54 b9.length c55), (1, .int .i64 x66), (3, .int .i64 x202), (8, .bool (decide ((IntKind.i64.wrap (x67 - b7.1)) ≥ (IntKind.i64.wrap ((IntKind.i64.wrap (x67 - x66)).tdiv 8))))), (9, .bool b7.2.1), (14, .int .i64 b7.1), (127, .slice A54 b9.length c55), (129, .int .i64 (IntKind.i64.wrap (b7.1 + 1))), (130, .int .i64 x67), (131, .int .i64 x202), (132, undef)]) rfl (by rw [hl557]) ?_
                  refine at_end ?_
                  refine at_thn ?_
                  refine at_reg [] [0, 1, 2, 3, 8, 9] (L2 := [(0, .slice A54 b9.length c55), (1, .int .i64 x66), (2, .int .i64 b7.1), (3, .int .i64 x202), (8, .bool (decide ((IntKind.i64.wrap (x67 - b7.1)) ≥ (IntKind.i64.wrap ((IntKind.i64.wrap (x67 - x66)).tdiv 8))))), (9, .bool b7.2.1)]) (obs := []) (by kernel_rfl) ?_ ?_
                  · intro w hs; exact trivial
                  refine at_in_norm ?_
                  refine at_thn ?_
                  refine at_keep [0, 1, 2, 3, 8, 9] (L2 := [(0, .slice A54 b9.length c55), (1, .int .i64 x66), (2, .int .i64 b7.1), (3, .int .i64 x202), (8, .bool (decide ((IntKind.i64.wrap (x67 - b7.1)) ≥ (IntKind.i64.wrap ((IntKind.i64.wrap (x67 - x66)).tdiv 8))))), (9, .bool b7.2.1)]) rfl ?_
                  exact ih72 _ (by omega) _ _ _ ⟨b9, s555, x66, b7.1, x202, decide ((IntKind.i64.wrap (x67 - b7.1)) ≥ (IntKind.i64.wrap ((IntKind.i64.wrap (x67 - x66)).tdiv 8))), b7.2.1, rfl, rfl, H, hle, by omega, ho556⟩
              · intro Jn427
                refine at_join (fun L I Ms => ∃ (k660 : Nat), ∃ (x659 : Bool), L = [(0, .slice A54 x420.length c55), (1, .int .i64 x66), (2, .int .i64 x67), (3, .int .i64 x202), (8, .bool x69), (9, .bool x70), (10, .int .i64 (IntKind.i64.wrap (x67 - x66))), (11, .int .i64 x315), (87, .bool x659)] ∧ Ms = (s423 :: Fs) ∧ slices_pdqsortOrdered_string_j4 k660 x659 p53 x66 x67 x69 x70 x202 x315 x420 = some r ∧ ImmLe I0 I ∧ k660 ≤ k425 ∧ Own Kd.string 9 I A54 c55 x420 s423) ?_ ?_
                · clear H hle ho424
                  intro L I Ms h_; obtain ⟨k660, x659, hL_, hM_, H, hle, hk661, ho424⟩ := h_; rw [hL_, hM_]; clear hL_ hM_ L Ms
                  rcases k660 with _ | k660
                  · exact (no_none H).elim
                  rw [slices_pdqsortOrdered_string_j4] at H
                  by_cases h662 : x659 = true
                  · rw [if_pos h662] at H
                    refine at_cond_t rfl (h662) ?_
                    refine at_seq ?_
                    refine at_ops [0, 1, 2, 3, 4, 5] rfl ?_
                    refine at_seg [0, 1, 2, 3] [4, 5] rfl [] [0, 2, 3, 8, 9, 88, 89, 90, 91] (L2 := [(0, .slice A54 x420.length c55), (2, .int .i64 x67), (3, .int .i64 x202), (8, .bool x69), (9, .bool x70), (88, .slice A54 x420.length c55), (89, .int .i64 x66), (90, .int .i64 x67), (91, .int .i64 x315)]) (obs := []) (by kernel_rfl) ?_ ?_
                    · intro w hs; exact trivial
                    refine at_eff rfl rfl ?_
                    obtain ⟨b10, H663, H⟩ := bind_some H
                    have hm_ := slices_partitionEqualOrdered_string.calls (I0 := I) H663 ho424
                    refine eff_call rfl rfl ok25 rfl rfl (show Meets Try.prog 25 ([.slice A54 x420.length c55, .int .i64 x66, .int .i64 x67, .int .i64 x315] : List Value).toArray _ [s423] _ from hm_) (Mr := (Fs)) (List.Perm.refl _) (fun v664 J665 M666 hq667 hJ668 => ?_)
                    replace hle := hle.trans hJ668
                    replace ho424 := ho424.mono hJ668
                    obtain ⟨s669, rfl, rfl, ho670, hl671⟩ := hq667
                    refine at_keep [0, 2, 3, 8, 9, 88, 89, 90, 91, 92] (L2 := [(0, .slice A54 x420.length c55), (2, .int .i64 x67), (3, .int .i64 x202), (8, .bool x69), (9, .bool x70), (88, .slice A54 x420.length c55), (89, .int .i64 x66), (90, .int .i64 x67), (91, .int .i64 x315), (92, .int .i64 b10.1)]) rfl ?_
                    refine at_eqL2 (L1 := [(0, .slice A54 x420.length c55), (2, .int .i64 x67), (3, .int .i64 x202), (8, .bool x69), (9, .bool x70), (88, .slice A54 x420.length c55), (89, .int .i64 x66), (90, .int .i64 x67), (91, .int .i64 x315), (92, .int .i64 b10.1)]) (L2 := [(0, .slice A54 b10.2.length c55), (2, .int .i64 x67), (3, .int .i64 x202), (8, .bool x69), (9, .bool x70), (88, .slice A54 b10.2.length c55), (89, .int .i64 x66), (90, .int .i64 x67), (91, .int .i64 x315), (92, .int .i64 b10.1)]) rfl (by rw [hl671]) ?_
                    refine at_seg [5] [] rfl [] [0, 2, 3, 8, 9, 13] (L2 := [(0, .slice A54 b10.2.length c55), (2, .int .i64 x67), (3, .int .i64 x202), (8, .bool x69), (9, .bool x70), (13, .int .i64 b10.1)]) (obs := []) (by kernel_rfl) ?_ ?_
                    · intro w hs; exact trivial
                    refine at_end ?_
                    refine at_thn ?_
                    refine at_seq ?_
                    refine at_reg [] [0, 1, 2, 3, 8, 9] (L2 := [(0, .slice A54 b10.2.length c55), (1, .int .i64 b10.1), (2, .int .i64 x67), (3, .int .i64 x202), (8, .bool x69), (9, .bool x70)]) (obs := []) (by kernel_rfl) ?_ ?_
                    · intro w hs; exact trivial
                    refine at_thn ?_
                    refine at_exit ?_
                    refine at_then_exit ?_
                    refine at_in_hit ?_
                    refine at_thn ?_
                    refine at_keep [0, 1, 2, 3, 8, 9] (L2 := [(0, .slice A54 b10.2.length c55), (1, .int .i64 b10.1), (2, .int .i64 x67), (3, .int .i64 x202), (8, .bool x69), (9, .bool x70)]) rfl ?_
                    exact ih72 _ (by omega) _ _ _ ⟨b10.2, s669, b10.1, x67, x202, x69, x70, rfl, rfl, H, hle, by omega, ho670⟩
                  · rw [if_neg h662] at H
                    refine at_cond_f rfl (ff_of h662) ?_
                    refine at_skip ?_
                    refine at_thn ?_
                    refine at_keep [0, 1, 2, 3, 10, 11] (L2 := [(0, .slice A54 x420.length c55), (1, .int .i64 x66), (2, .int .i64 x67), (3, .int .i64 x202), (10, .int .i64 (IntKind.i64.wrap (x67 - x66))), (11, .int .i64 x315)]) rfl ?_
                    exact Jn427 _ _ _ ⟨_, rfl, rfl, H, hle, by omega, ho424⟩
                · intro Jn558
                  by_cases h672 : x66 > 0
                  · rw [if_pos h672] at H
                    obtain ⟨h673, H⟩ := ite_some H
                    obtain ⟨h674, H⟩ := ite_some H
                    obtain ⟨h675, H⟩ := ite_some H
                    obtain ⟨h676, H⟩ := ite_some H
                    refine at_x hmo (fun w => w.cell? ((A54.getD ad0).add ((IntKind.i64.wrap (x66 - 1)).toNat * 1)) = some (str (rdA [] x420 (IntKind.i64.wrap (x66 - 1)))) ∧ w.cell? ((A54.getD ad0).add (x315.toNat * 1)) = some (str (rdA [] x420 x315))) [] ?_
                    refine at_xseg [0, 1, 2, 3, 4, 5, 6, 7, 8, 9, 10, 11] 3 (#[true, true, true, true, true, true, true, true, true, true, true, true, false, false, false]) rfl (by kernel_rfl) [(2, .bool true), (7, str (rdA [] x420 (IntKind.i64.wrap (x66 - 1)))), (11, str (rdA [] x420 x315))] [0, 1, 2, 3, 8, 9, 10, 11, 75, 80, 84] (L2 := [(0, .slice A54 x420.length c55), (1, .int .i64 x66), (2, .int .i64 x67), (3, .int .i64 x202), (8, .bool x69), (9, .bool x70), (10, .int .i64 (IntKind.i64.wrap (x67 - x66))), (11, .int .i64 x315), (75, .bool true), (80, str (rdA [] x420 (IntKind.i64.wrap (x66 - 1)))), (84, str (rdA [] x420 x315))]) (obs := [fun _ => (.bool (decide (x66 > 0)) : Value) = .bool true, fun _ => A54.isSome = true ∧ 0 ≤ (IntKind.i64.wrap (x66 - 1)) ∧ (IntKind.i64.wrap (x66 - 1)) < ((x420.length : Nat) : Int), fun w => w.cell? ((A54.getD ad0).add ((IntKind.i64.wrap (x66 - 1)).toNat * 1)) = some (str (rdA [] x420 (IntKind.i64.wrap (x66 - 1)))), fun _ => A54.isSome = true ∧ 0 ≤ x315 ∧ x315 < ((x420.length : Nat) : Int), fun w => w.cell? ((A54.getD ad0).add (x315.toNat * 1)) = some (str (rdA [] x420 x315))]) (by kernel_rfl) (by kernel_rfl) (by kernel_rfl) (.inr fun w hs => ⟨ho424.one [] (IntKind.i64.wrap (x66 - 1)) h673 h674 hs (k := 0) rfl, ho424.one [] x315 h675 h676 hs (k := 0) rfl⟩) (fun w hS => ⟨congrArg Value.bool (decide_eq_true h672), ⟨ho424.ne (IntKind.i64.wrap (x66 - 1)) h673 h674, h673, h674⟩, hS.1, ⟨ho424.ne x315 h675 h676, h675, h676⟩, hS.2⟩) (fun w hs => ⟨congrArg Value.bool (decide_eq_true h672), ⟨ho424.ne (IntKind.i64.wrap (x66 - 1)) h673 h674, h673, h674⟩, ho424.one [] (IntKind.i64.wrap (x66 - 1)) h673 h674 hs (k := 0) rfl, ⟨ho424.ne x315 h675 h676, h675, h676⟩, ho424.one [] x315 h675 h676 hs (k := 0) rfl⟩) ?_
                    refine at_x1 2 12 (#[true, true, true, true, true, true, true, true, true, true, true, true, true, false, false]) rfl (by kernel_rfl) (by kernel_rfl) rfl rfl ?_
                    obtain ⟨b11, H677, H⟩ := bind_some H
                    have hm_ := cmp_Less_string.calls (I0 := I) H677
                    refine eff_call rfl rfl ok24 rfl rfl (show Meets Try.prog 24 ([str (rdA [] x420 (IntKind.i64.wrap (x66 - 1))), str (rdA [] x420 x315)] : List Value).toArray _ [] _ from hm_) (Mr := (s423 :: Fs)) (List.Perm.refl _) (fun v678 J679 M680 hq681 hJ682 => ?_)
                    replace hle := hle.trans hJ682
                    replace ho424 := ho424.mono hJ682
                    obtain ⟨rfl, rfl⟩ := hq681
                    refine at_xS (fun w hs => ⟨ho424.one [] (IntKind.i64.wrap (x66 - 1)) h673 h674 hs (k := 0) rfl, ho424.one [] x315 h675 h676 hs (k := 0) rfl⟩) ?_
                    refine at_xseg [13, 14] 0 (#[true, true, true, true, true, true, true, true, true, true, true, true, true, true, true]) rfl (by kernel_rfl) [] [0, 1, 2, 3, 8, 9, 10, 11, 87] (L2 := [(0, .slice A54 x420.length c55), (1, .int .i64 x66), (2, .int .i64 x67), (3, .int .i64 x202), (8, .bool x69), (9, .bool x70), (10, .int .i64 (IntKind.i64.wrap (x67 - x66))), (11, .int .i64 x315), (87, .bool (!b11))]) (obs := []) (by kernel_rfl) (by kernel_rfl) (by kernel_rfl) (.inr fun w hs => ⟨ho424.one [] (IntKind.i64.wrap (x66 - 1)) h673 h674 hs (k := 0) rfl, ho424.one [] x315 h675 h676 hs (k := 0) rfl⟩) (fun w hS => trivial) (fun w hs => trivial) ?_
                    refine at_xend (by kernel_rfl) ?_
                    refine at_thn ?_
                    refine at_keep [0, 1, 2, 3, 8, 9, 10, 11, 87] (L2 := [(0, .slice A54 x420.length c55), (1, .int .i64 x66), (2, .int .i64 x67), (3, .int .i64 x202), (8, .bool x69), (9, .bool x70), (10, .int .i64 (IntKind.i64.wrap (x67 - x66))), (11, .int .i64 x315), (87, .bool (!b11))]) rfl ?_
                    exact Jn558 _ _ _ ⟨_, (!b11), rfl, rfl, H, hle, by omega, ho424⟩
                  · rw [if_neg h672] at H
                    refine at_x hmo (fun w => True) [] ?_
                    refine at_xseg [0, 1, 2, 3, 4, 5, 6, 7, 8, 9, 10, 11] 3 (#[true, true, true, true, true, true, true, true, true, true, true, true, false, false, false]) rfl (by kernel_rfl) [(2, .bool false)] [0, 1, 2, 3, 8, 9, 10, 11, 75, 80, 84] (L2 := [(0, .slice A54 x420.length c55), (1, .int .i64 x66), (2, .int .i64 x67), (3, .int .i64 x202), (8, .bool x69), (9, .bool x70), (10, .int .i64 (IntKind.i64.wrap (x67 - x66))), (11, .int .i64 x315), (75, .bool false), (80, undef), (84, undef)]) (obs := [fun _ => (.bool (decide (x66 > 0)) : Value) = .bool false]) (by kernel_rfl) (by kernel_rfl) (by kernel_rfl) (.inr fun w hs => trivial) (fun w hS => congrArg Value.bool (decide_eq_false h672)) (fun w hs => congrArg Value.bool (decide_eq_false h672)) ?_
                    refine at_xseg [12, 13, 14] 0 (#[true, true, true, true, true, true, true, true, true, true, true, true, true, true, true]) rfl (by kernel_rfl) [] [0, 1, 2, 3, 8, 9, 10, 11, 87] (L2 := [(0, .slice A54 x420.length c55), (1, .int .i64 x66), (2, .int .i64 x67), (3, .int .i64 x202), (8, .bool x69), (9, .bool x70), (10, .int .i64 (IntKind.i64.wrap (x67 - x66))), (11, .int .i64 x315), (87, .bool false)]) (obs := []) (by kernel_rfl) (by kernel_rfl) (by kernel_rfl) (.inr fun w hs => trivial) (fun w hS => trivial) (fun w hs => trivial) ?_
                    refine at_xend (by kernel_rfl) ?_
                    refine at_thn ?_
                    refine at_keep [0, 1, 2, 3, 8, 9, 10, 11, 87] (L2 := [(0, .slice A54 x420.length c55), (1, .int .i64 x66), (2, .int .i64 x67), (3, .int .i64 x202), (8, .bool x69), (9, .bool x70), (10, .int .i64 (IntKind.i64.wrap (x67 - x66))), (11, .int .i64 x315), (87, .bool false)]) rfl ?_
                    exact Jn558 _ _ _ ⟨_, false, rfl, rfl, H, hle, by omega, ho424⟩
            · intro Jn319
              refine at_join (fun L I Ms => ∃ (k785 : Nat), ∃ (x784 : Bool), L = [(0, .slice A54 x310.length c55), (1, .int .i64 x66), (2, .int .i64 x67), (3, .int .i64 x202), (8, .bool x69), (9, .bool x70), (10, .int .i64 (IntKind.i64.wrap (x67 - x66))), (11, .int .i64 x315), (68, .bool x784)] ∧ Ms = (s313 :: Fs) ∧ slices_pdqsortOrdered_string_j5 k785 x784 p53 x66 x67 x69 x70 x202 x310 x315 = some r ∧ ImmLe I0 I ∧ k785 ≤ k317 ∧ Own Kd.string 9 I A54 c55 x310 s313) ?_ ?_
              · clear H hle ho314
                intro L I Ms h_; obtain ⟨k785, x784, hL_, hM_, H, hle, hk786, ho314⟩ := h_; rw [hL_, hM_]; clear hL_ hM_ L Ms
                rcases k785 with _ | k785
                · exact (no_none H).elim
                rw [slices_pdqsortOrdered_string_j5] at H
                by_cases h787 : x784 = true
                · rw [if_pos h787] at H
                  refine at_cond_t rfl (h787) ?_
                  refine at_seq ?_
                  refine at_ops [0, 1, 2, 3] rfl ?_
                  refine at_seg [0, 1, 2] [3] rfl [] [0, 1, 2, 3, 8, 9, 10, 11, 69, 70, 71] (L2 := [(0, .slice A54 x310.length c55), (1, .int .i64 x66), (2, .int .i64 x67), (3, .int .i64 x202), (8, .bool x69), (9, .bool x70), (10, .int .i64 (IntKind.i64.wrap (x67 - x66))), (11, .int .i64 x315), (69, .slice A54 x310.length c55), (70, .int .i64 x66), (71, .int .i64 x67)]) (obs := []) (by kernel_rfl) ?_ ?_
                  · intro w hs; exact trivial
                  refine at_eff rfl rfl ?_
                  obtain ⟨b12, H788, H⟩ := bind_some H
                  have hm_ := slices_partialInsertionSortOrdered_string.calls (I0 := I) H788 ho314
                  refine eff_call rfl rfl ok23 rfl rfl (show Meets Try.prog 23 ([.slice A54 x310.length c55, .int .i64 x66, .int .i64 x67] : List Value).toArray _ [s313] _ from hm_) (Mr := (Fs)) (List.Perm.refl _) (fun v789 J790 M791 hq792 hJ793 => ?_)
                  replace hle := hle.trans hJ793
                  replace ho314 := ho314.mono hJ793
                  obtain ⟨s794, rfl, rfl, ho795, hl796⟩ := hq792
                  refine at_keep [0, 1, 2, 3, 8, 9, 10, 11, 69, 70, 71, 72] (L2 := [(0, .slice A54 x310.length c55), (1, .int .i64 x66), (2, .int .i64 x67), (3, .int .i64 x202), (8, .bool x69), (9, .bool x70), (10, .int .i64 (IntKind.i64.wrap (x67 - x66))), (11, .int .i64 x315), (69, .slice A54 x310.length c55), (70, .int .i64 x66), (71, .int .i64 x67), (72, .bool b12.1)]) rfl ?_
                  refine at_eqL2 (L1 := [(0, .slice A54 x310.length c55), (1, .int .i64 x66), (2, .int .i64 x67), (3, .int .i64 x202), (8, .bool x69), (9, .bool x70), (10, .int .i64 (IntKind.i64.wrap (x67 - x66))), (11, .int .i64 x315), (69, .slice A54 x310.length c55), (70, .int .i64 x66), (71, .int .i64 x67), (72, .bool b12.1)]) (L2 := [(0, .slice A54 b12.2.length c55), (1, .int .i64 x66), (2, .int .i64 x67), (3, .int .i64 x202), (8, .bool x69), (9, .bool x70), (10, .int .i64 (IntKind.i64.wrap (x67 - x66))), (11, .int .i64 x315), (69, .slice A54 b12.2.length c55), (70, .int .i64 x66), (71, .int .i64 x67), (72, .bool b12.1)]) rfl (by rw [hl796]) ?_
                  refine at_end ?_
                  refine at_thn ?_
                  by_cases h797 : b12.1 = true
                  · rw [if_pos h797] at H
                    refine at_cond_t rfl (h797) ?_
                    refine at_ret ?_
                    refine at_then_ret ?_
                    refine at_in_ret ?_
                    refine at_then_ret ?_
                    refine at_in_ret ?_
                    obtain ⟨h798, H⟩ := ite_some H
                    obtain rfl := Option.some.inj H
                    refine at_done (vs := []) (obs := []) (.inl rfl) [] [] rfl (by kernel_rfl) (fun w hs => trivial) (fun w hs => ⟨_, _, [s794], rfl, ⟨s794, rfl, rfl, ho795, h798⟩, hle, hs⟩)
                  · rw [if_neg h797] at H
                    refine at_cond_f rfl (ff_of h797) ?_
                    refine at_skip ?_
                    refine at_thn ?_
                    refine at_keep [0, 1, 2, 3, 8, 9, 10, 11] (L2 := [(0, .slice A54 b12.2.length c55), (1, .int .i64 x66), (2, .int .i64 x67), (3, .int .i64 x202), (8, .bool x69), (9, .bool x70), (10, .int .i64 (IntKind.i64.wrap (x67 - x66))), (11, .int .i64 x315)]) rfl ?_
                    exact Jn319 _ _ _ ⟨_, b12.2, s794, rfl, rfl, H, hle, by omega, ho795⟩
                · rw [if_neg h787] at H
                  refine at_cond_f rfl (ff_of h787) ?_
                  refine at_skip ?_
                  refine at_thn ?_
                  refine at_keep [0, 1, 2, 3, 8, 9, 10, 11] (L2 := [(0, .slice A54 x310.length c55), (1, .int .i64 x66), (2, .int .i64 x67), (3, .int .i64 x202), (8, .bool x69), (9, .bool x70), (10, .int .i64 (IntKind.i64.wrap (x67 - x66))), (11, .int .i64 x315)]) rfl ?_
                  exact Jn319 _ _ _ ⟨_, x310, s313, rfl, rfl, H, hle, by omega, ho314⟩
              · intro Jn683
                by_cases h799 : x69 = true
                · rw [if_pos h799] at H
                  by_cases h800 : x70 = true
                  · rw [if_pos h800] at H
                    refine at_reg [(1, .bool true), (4, .bool true)] [0, 1, 2, 3, 8, 9, 10, 11, 68] (L2 := [(0, .slice A54 x310.length c55), (1, .int .i64 x66), (2, .int .i64 x67), (3, .int .i64 x202), (8, .bool x69), (9, .bool x70), (10, .int .i64 (IntKind.i64.wrap (x67 - x66))), (11, .int .i64 x315), (68, .bool (x316 == 1))]) (obs := [fun _ => (.bool x69 : Value) = .bool true, fun _ => (.bool x70 : Value) = .bool true]) (by kernel_rfl) ?_ ?_
                    · intro w hs; exact ⟨congrArg Value.bool (h799), congrArg Value.bool (h800)⟩
                    refine at_thn ?_
                    refine at_keep [0, 1, 2, 3, 8, 9, 10, 11, 68] (L2 := [(0, .slice A54 x310.length c55), (1, .int .i64 x66), (2, .int .i64 x67), (3, .int .i64 x202), (8, .bool x69), (9, .bool x70), (10, .int .i64 (IntKind.i64.wrap (x67 - x66))), (11, .int .i64 x315), (68, .bool (x316 == 1))]) rfl ?_
                    exact Jn683 _ _ _ ⟨_, (x316 == 1), rfl, rfl, H, hle, by omega, ho314⟩
                  · rw [if_neg h800] at H
                    refine at_reg [(1, .bool true), (4, .bool false)] [0, 1, 2, 3, 8, 9, 10, 11, 68] (L2 := [(0, .slice A54 x310.length c55), (1, .int .i64 x66), (2, .int .i64 x67), (3, .int .i64 x202), (8, .bool x69), (9, .bool x70), (10, .int .i64 (IntKind.i64.wrap (x67 - x66))), (11, .int .i64 x315), (68, .bool false)]) (obs := [fun _ => (.bool x69 : Value) = .bool true, fun _ => (.bool x70 : Value) = .bool false]) (by kernel_rfl) ?_ ?_
                    · intro w hs; exact ⟨congrArg Value.bool (h799), congrArg Value.bool (ff_of h800)⟩
                    refine at_thn ?_
                    refine at_keep [0, 1, 2, 3, 8, 9, 10, 11, 68] (L2 := [(0, .slice A54 x310.length c55), (1, .int .i64 x66), (2, .int .i64 x67), (3, .int .i64 x202), (8, .bool x69), (9, .bool x70), (10, .int .i64 (IntKind.i64.wrap (x67 - x66))), (11, .int .i64 x315), (68, .bool false)]) rfl ?_
                    exact Jn683 _ _ _ ⟨_, false, rfl, rfl, H, hle, by omega, ho314⟩
                · rw [if_neg h799] at H
                  refine at_reg [(1, .bool false)] [0, 1, 2, 3, 8, 9, 10, 11, 68] (L2 := [(0, .slice A54 x310.length c55), (1, .int .i64 x66), (2, .int .i64 x67), (3, .int .i64 x202), (8, .bool x69), (9, .bool x70), (10, .int .i64 (IntKind.i64.wrap (x67 - x66))), (11, .int .i64 x315), (68, .bool false)]) (obs := [fun _ => (.bool x69 : Value) = .bool false]) (by kernel_rfl) ?_ ?_
                  · intro w hs; exact congrArg Value.bool (ff_of h799)
                  refine at_thn ?_
                  refine at_keep [0, 1, 2, 3, 8, 9, 10, 11, 68] (L2 := [(0, .slice A54 x310.length c55), (1, .int .i64 x66), (2, .int .i64 x67), (3, .int .i64 x202), (8, .bool x69), (9, .bool x70), (10, .int .i64 (IntKind.i64.wrap (x67 - x66))), (11, .int .i64 x315), (68, .bool false)]) rfl ?_
                  exact Jn683 _ _ _ ⟨_, false, rfl, rfl, H, hle, by omega, ho314⟩
          · intro Jn209
            refine at_seq ?_
            refine at_reg [] [0, 1, 2, 3, 8, 9, 10, 11, 12, 50] (L2 := [(0, .slice A54 x197.length c55), (1, .int .i64 x66), (2, .int .i64 x67), (3, .int .i64 x202), (8, .bool x69), (9, .bool x70), (10, .int .i64 (IntKind.i64.wrap (x67 - x66))), (11, .int .i64 b6.1), (12, .int .i64 b6.2), (50, .bool (b6.2 == 2))]) (obs := []) (by kernel_rfl) ?_ ?_
            · intro w hs; exact trivial
            refine at_thn ?_
            by_cases h801 : b6.2 = 2
            · rw [if_pos h801] at H
              refine at_cond_t rfl (beq_iff_eq.2 h801) ?_
              refine at_seq ?_
              refine at_ops [0, 1, 2, 3] rfl ?_
              refine at_seg [0, 1, 2] [3] rfl [] [0, 1, 2, 3, 8, 9, 10, 11, 51, 52, 53] (L2 := [(0, .slice A54 x197.length c55), (1, .int .i64 x66), (2, .int .i64 x67), (3, .int .i64 x202), (8, .bool x69), (9, .bool x70), (10, .int .i64 (IntKind.i64.wrap (x67 - x66))), (11, .int .i64 b6.1), (51, .slice A54 x197.length c55), (52, .int .i64 x66), (53, .int .i64 x67)]) (obs := []) (by kernel_rfl) ?_ ?_
              · intro w hs; exact trivial
              refine at_eff rfl rfl ?_
              obtain ⟨b13, H802, H⟩ := bind_some H
              have hm_ := slices_reverseRangeOrdered_string.calls (I0 := I) H802 ho201
              refine eff_call rfl rfl ok22 rfl rfl (show Meets Try.prog 22 ([.slice A54 x197.length c55, .int .i64 x66, .int .i64 x67] : List Value).toArray _ [s200] _ from hm_) (Mr := (Fs)) (List.Perm.refl _) (fun v803 J804 M805 hq806 hJ807 => ?_)
              replace hle := hle.trans hJ807
              replace ho201 := ho201.mono hJ807
              obtain ⟨s808, rfl, rfl, ho809, hl810⟩ := hq806
              refine at_keep [0, 1, 2, 3, 8, 9, 10, 11, 51, 52, 53, 54] (L2 := [(0, .slice A54 x197.length c55), (1, .int .i64 x66), (2, .int .i64 x67), (3, .int .i64 x202), (8, .bool x69), (9, .bool x70), (10, .int .i64 (IntKind.i64.wrap (x67 - x66))), (11, .int .i64 b6.1), (51, .slice A54 x197.length c55), (52, .int .i64 x66), (53, .int .i64 x67), (54, undef)]) rfl ?_
              refine at_eqL2 (L1 := [(0, .slice A54 x197.length c55), (1, .int .i64 x66), (2, .int .i64 x67), (3, .int .i64 x202), (8, .bool x69), (9, .bool x70), (10, .int .i64 (IntKind.i64.wrap (x67 - x66))), (11, .int .i64 b6.1), (51, .slice A54 x197.length c55), (52, .int .i64 x66), (53, .int .i64 x67), (54, undef)]) (L2 := [(0, .slice A54 b13.length c55), (1, .int .i64 x66), (2, .int .i64 x67), (3, .int .i64 x202), (8, .bool x69), (9, .bool x70), (10, .int .i64 (IntKind.i64.wrap (x67 - x66))), (11, .int .i64 b6.1), (51, .slice A54 b13.length c55), (52, .int .i64 x66), (53, .int .i64 x67), (54, undef)]) rfl (by rw [hl810]) ?_
              refine at_end ?_
              refine at_thn ?_
              refine at_seq ?_
              refine at_reg [] [0, 1, 2, 3, 8, 9, 10, 11] (L2 := [(0, .slice A54 b13.length c55), (1, .int .i64 x66), (2, .int .i64 x67), (3, .int .i64 x202), (8, .bool x69), (9, .bool x70), (10, .int .i64 (IntKind.i64.wrap (x67 - x66))), (11, .int .i64 (IntKind.i64.wrap ((IntKind.i64.wrap (x67 - 1)) - (IntKind.i64.wrap (b6.1 - x66)))))]) (obs := []) (by kernel_rfl) ?_ ?_
              · intro w hs; exact trivial
              refine at_thn ?_
              refine at_reg [] [0, 1, 2, 3, 8, 9, 10, 11, 12] (L2 := [(0, .slice A54 b13.length c55), (1, .int .i64 x66), (2, .int .i64 x67), (3, .int .i64 x202), (8, .bool x69), (9, .bool x70), (10, .int .i64 (IntKind.i64.wrap (x67 - x66))), (11, .int .i64 (IntKind.i64.wrap ((IntKind.i64.wrap (x67 - 1)) - (IntKind.i64.wrap (b6.1 - x66))))), (12, .int .i64 1)]) (obs := []) (by kernel_rfl) ?_ ?_
              · intro w hs; exact trivial
              refine at_thn ?_
              refine at_keep [0, 1, 2, 3, 8, 9, 10, 11, 12] (L2 := [(0, .slice A54 b13.length c55), (1, .int .i64 x66), (2, .int .i64 x67), (3, .int .i64 x202), (8, .bool x69), (9, .bool x70), (10, .int .i64 (IntKind.i64.wrap (x67 - x66))), (11, .int .i64 (IntKind.i64.wrap ((IntKind.i64.wrap (x67 - 1)) - (IntKind.i64.wrap (b6.1 - x66))))), (12, .int .i64 1)]) rfl ?_
              exact Jn209 _ _ _ ⟨_, b13, s808, IntKind.i64.wrap ((IntKind.i64.wrap (x67 - 1)) - (IntKind.i64.wrap (b6.1 - x66))), 1, rfl, rfl, H, hle, by omega, ho809⟩
            · rw [if_neg h801] at H
              refine at_cond_f rfl (beq_eq_false_iff_ne.2 h801) ?_
              refine at_skip ?_
              refine at_thn ?_
              refine at_keep [0, 1, 2, 3, 8, 9, 10, 11, 12] (L2 := [(0, .slice A54 x197.length c55), (1, .int .i64 x66), (2, .int .i64 x67), (3, .int .i64 x202), (8, .bool x69), (9, .bool x70), (10, .int .i64 (IntKind.i64.wrap (x67 - x66))), (11, .int .i64 b6.1), (12, .int .i64 b6.2)]) rfl ?_
              exact Jn209 _ _ _ ⟨_, x197, s200, b6.1, b6.2, rfl, rfl, H, hle, by omega, ho201⟩
        · intro Jn96
          refine at_seq ?_
          refine at_reg [] [0, 1, 2, 3, 8, 9, 10, 35] (L2 := [(0, .slice A54 x61.length c55), (1, .int .i64 x66), (2, .int .i64 x67), (3, .int .i64 x68), (8, .bool x69), (9, .bool x70), (10, .int .i64 (IntKind.i64.wrap (x67 - x66))), (35, .bool (!x69))]) (obs := []) (by kernel_rfl) ?_ ?_
          · intro w hs; exact trivial
          refine at_thn ?_
          by_cases h811 : x69 = true
          · rw [if_pos h811] at H
            refine at_cond_f rfl (not_ff (h811)) ?_
            refine at_skip ?_
            refine at_thn ?_
            refine at_keep [0, 1, 2, 3, 8, 9, 10] (L2 := [(0, .slice A54 x61.length c55), (1, .int .i64 x66), (2, .int .i64 x67), (3, .int .i64 x68), (8, .bool x69), (9, .bool x70), (10, .int .i64 (IntKind.i64.wrap (x67 - x66)))]) rfl ?_
            exact Jn96 _ _ _ ⟨_, x61, s64, x68, rfl, rfl, H, hle, by omega, ho65⟩
          · rw [if_neg h811] at H
            refine at_cond_t rfl (not_tt (ff_of h811)) ?_
            refine at_seq ?_
            refine at_ops [0, 1, 2, 3] rfl ?_
            refine at_seg [0, 1, 2] [3] rfl [] [0, 1, 2, 3, 8, 9, 10, 36, 37, 38] (L2 := [(0, .slice A54 x61.length c55), (1, .int .i64 x66), (2, .int .i64 x67), (3, .int .i64 x68), (8, .bool x69), (9, .bool x70), (10, .int .i64 (IntKind.i64.wrap (x67 - x66))), (36, .slice A54 x61.length c55), (37, .int .i64 x66), (38, .int .i64 x67)]) (obs := []) (by kernel_rfl) ?_ ?_
            · intro w hs; exact trivial
            refine at_eff rfl rfl ?_
            obtain ⟨b14, H812, H⟩ := bind_some H
            have hm_ := slices_breakPatternsOrdered_string.calls (I0 := I) H812 ho65
            refine eff_call rfl rfl ok20 rfl rfl (show Meets Try.prog 20 ([.slice A54 x61.length c55, .int .i64 x66, .int .i64 x67] : List Value).toArray _ [s64] _ from hm_) (Mr := (Fs)) (List.Perm.refl _) (fun v813 J814 M815 hq816 hJ817 => ?_)
            replace hle := hle.trans hJ817
            replace ho65 := ho65.mono hJ817
            obtain ⟨s818, rfl, rfl, ho819, hl820⟩ := hq816
            refine at_keep [0, 1, 2, 3, 8, 9, 10, 36, 37, 38, 39] (L2 := [(0, .slice A54 x61.length c55), (1, .int .i64 x66), (2, .int .i64 x67), (3, .int .i64 x68), (8, .bool x69), (9, .bool x70), (10, .int .i64 (IntKind.i64.wrap (x67 - x66))), (36, .slice A54 x61.length c55), (37, .int .i64 x66), (38, .int .i64 x67), (39, undef)]) rfl ?_
            refine at_eqL2 (L1 := [(0, .slice A54 x61.length c55), (1, .int .i64 x66), (2, .int .i64 x67), (3, .int .i64 x68), (8, .bool x69), (9, .bool x70), (10, .int .i64 (IntKind.i64.wrap (x67 - x66))), (36, .slice A54 x61.length c55), (37, .int .i64 x66), (38, .int .i64 x67), (39, undef)]) (L2 := [(0, .slice A54 b14.length c55), (1, .int .i64 x66), (2, .int .i64 x67), (3, .int .i64 x68), (8, .bool x69), (9, .bool x70), (10, .int .i64 (IntKind.i64.wrap (x67 - x66))), (36, .slice A54 b14.length c55), (37, .int .i64 x66), (38, .int .i64 x67), (39, undef)]) rfl (by rw [hl820]) ?_
            refine at_end ?_
            refine at_thn ?_
            refine at_reg [] [0, 1, 2, 3, 8, 9, 10] (L2 := [(0, .slice A54 b14.length c55), (1, .int .i64 x66), (2, .int .i64 x67), (3, .int .i64 (IntKind.i64.wrap (x68 - 1))), (8, .bool x69), (9, .bool x70), (10, .int .i64 (IntKind.i64.wrap (x67 - x66)))]) (obs := []) (by kernel_rfl) ?_ ?_
            · intro w hs; exact trivial
            refine at_thn ?_
            refine at_keep [0, 1, 2, 3, 8, 9, 10] (L2 := [(0, .slice A54 b14.length c55), (1, .int .i64 x66), (2, .int .i64 x67), (3, .int .i64 (IntKind.i64.wrap (x68 - 1))), (8, .bool x69), (9, .bool x70), (10, .int .i64 (IntKind.i64.wrap (x67 - x66)))]) rfl ?_
            exact Jn96 _ _ _ ⟨_, b14, s818, IntKind.i64.wrap (x68 - 1), rfl, rfl, H, hle, by omega, ho819⟩
theorem slices_pdqsortOrdered_string.calls {k : Nat} {p53 : List (List UInt8)} {p58 : Int} {p59 : Int} {p60 : Int} {r : (List (List UInt8))} {I0 : Imm} {A54 : Option Addr} {c55 : Nat} {s56 : Seg} (H : slices_pdqsortOrdered_string k p53 p58 p59 p60 = some r) (ho57 : Own Kd.string 9 I0 A54 c55 p53 s56) :
    Meets Try.prog 16 ([.slice A54 p53.length c55, .int .i64 p58, .int .i64 p59, .int .i64 p60] : List Value).toArray I0 [s56] (fun v J M => ∃ (s_1 : Seg), v = .tuple #[] ∧ M = [s_1] ∧ Own Kd.string 9 J A54 c55 r s_1 ∧ r.length = p53.length) := slices_pdqsortOrdered_string.calls_ k H ho57
end Go.Proofs.Ytgdbigafcjaohaa
