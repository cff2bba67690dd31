import Derived.Test.YtgdbigafcjaohaaG7
namespace Go.Proofs.Ytgdbigafcjaohaa
open Go Eng
set_option linter.unusedVariables false
set_option linter.unusedSimpArgs false
/-! ### slices.nextPowerOfTwo: function 30 -/
def slices_nextPowerOfTwo (k : Nat) (p99 : Int) : Option Int := (bits_Len k (IntKind.u64.wrap p99)).bind fun b6 => (if 0 ≤ b6 then (some (IntKind.u64.wrap (1 * 2 ^ (min b6.toNat 64)))) else none)
set_option maxHeartbeats 4000000 in
set_option maxRecDepth 100000 in
theorem slices_nextPowerOfTwo.calls {k : Nat} {p99 : Int} {r : Int} {I0 : Imm} (H : slices_nextPowerOfTwo k p99 = some r) :
    Meets Try.prog 30 ([.int .i64 p99] : List Value).toArray I0 [] (fun v J M => v = .int .u64 r ∧ M = []) := by
  have hle := ImmLe.refl I0
  unfold slices_nextPowerOfTwo at H
  refine fn_intro (fn := Try.f30) 7 Try.func30 rfl rfl rfl (fun E Fs => ?_)
  refine at_seq ?_
  refine at_reg [] [0] (L2 := [(0, .int .i64 p99)]) (obs := []) (by kernel_rfl) ?_ ?_
  · intro w hs; exact trivial
  refine at_thn ?_
  refine at_seq ?_
  refine at_ops [0, 1, 2, 3, 4] rfl ?_
  refine at_seg [0, 1] [2, 3, 4] rfl [] [4] (L2 := [(4, .int .u64 (IntKind.u64.wrap p99))]) (obs := []) (by kernel_rfl) ?_ ?_
  · intro w hs; exact trivial
  refine at_eff rfl rfl ?_
  obtain ⟨b6, H100, H⟩ := bind_some H
  have hm_ := bits_Len.calls (I0 := I0) H100
  refine eff_call rfl rfl ok17 rfl rfl (show Meets Try.prog 17 ([.int .u64 (IntKind.u64.wrap p99)] : List Value).toArray _ [] _ from hm_) (Mr := (Fs)) (List.Perm.refl _) (fun v101 J102 M103 hq104 hJ105 => ?_)
  replace hle := hle.trans hJ105
  obtain ⟨rfl, rfl⟩ := hq104
  obtain ⟨h106, H⟩ := ite_some H
  refine at_seg [3, 4] [] rfl [] [2] (L2 := [(2, .int .u64 (IntKind.u64.wrap (1 * 2 ^ (min b6.toNat 64))))]) (obs := [fun _ => 0 ≤ b6]) (by kernel_rfl) ?_ ?_
  · intro w hs; exact h106
  refine at_end ?_
  refine at_thn ?_
  refine at_ret ?_
  obtain rfl := Option.some.inj H
  refine at_done (vs := [.int .u64 (IntKind.u64.wrap (1 * 2 ^ (min b6.toNat 64)))]) (obs := []) (.inl rfl) [.tmp 2] [] rfl (by kernel_rfl) (fun w hs => trivial) (fun w hs => ⟨_, _, [], rfl, ⟨rfl, rfl⟩, hle, hs⟩)

/-! ### (*slices.xorshift).Next: function 31 -/
def slices_xorshift_Next (p107 : Int) : Option (Int × Int) := some (bitsV .xor .u64 (bitsV .xor .u64 (bitsV .xor .u64 p107 (IntKind.u64.wrap (p107 * 2 ^ 13))) ((bitsV .xor .u64 p107 (IntKind.u64.wrap (p107 * 2 ^ 13))).fdiv (2 ^ 7))) (IntKind.u64.wrap ((bitsV .xor .u64 (bitsV .xor .u64 p107 (IntKind.u64.wrap (p107 * 2 ^ 13))) ((bitsV .xor .u64 p107 (IntKind.u64.wrap (p107 * 2 ^ 13))).fdiv (2 ^ 7))) * 2 ^ 17)), bitsV .xor .u64 (bitsV .xor .u64 (bitsV .xor .u64 p107 (IntKind.u64.wrap (p107 * 2 ^ 13))) ((bitsV .xor .u64 p107 (IntKind.u64.wrap (p107 * 2 ^ 13))).fdiv (2 ^ 7))) (IntKind.u64.wrap ((bitsV .xor .u64 (bitsV .xor .u64 p107 (IntKind.u64.wrap (p107 * 2 ^ 13))) ((bitsV .xor .u64 p107 (IntKind.u64.wrap (p107 * 2 ^ 13))).fdiv (2 ^ 7))) * 2 ^ 17)))
set_option maxHeartbeats 4000000 in
set_option maxRecDepth 100000 in
theorem slices_xorshift_Next.calls {p107 : Int} {r : Int × Int} {I0 : Imm} {g106 : Nat} (H : slices_xorshift_Next p107 = some r) :
    Meets Try.prog 31 ([.pointer (some ⟨g106, 0, none⟩)] : List Value).toArray I0 [[(g106, .cells #[.int .u64 p107] 48 (0, 0))]] (fun v J M => v = .int .u64 r.1 ∧ M = [[(g106, .cells #[.int .u64 r.2] 48 (0, 0))]]) := by
  have hle := ImmLe.refl I0
  unfold slices_xorshift_Next at H
  refine fn_intro (fn := Try.f31) 33 Try.func31 rfl rfl rfl (fun E Fs => ?_)
  refine at_seq ?_
  refine at_reg [] [0] (L2 := [(0, .pointer (some ⟨g106, 0, none⟩))]) (obs := []) (by kernel_rfl) ?_ ?_
  · intro w hs; exact trivial
  refine at_thn ?_
  refine at_seq ?_
  refine at_x hmo (fun w => w.cell? ⟨g106, 0, none⟩ = some (.int .u64 p107) ∧ w.cell? ⟨g106, 0, none⟩ = some (.int .u64 p107)) [9] ?_
  refine at_xseg [0, 1, 2, 3, 4, 5, 6, 7, 8] 1 (#[true, true, true, true, true, true, true, true, true, false]) rfl (by kernel_rfl) [(2, .int .u64 p107), (5, .int .u64 p107)] [0, 10, 11] (L2 := [(0, .pointer (some ⟨g106, 0, none⟩)), (10, .int .u64 (bitsV .xor .u64 p107 (IntKind.u64.wrap (p107 * 2 ^ 13)))), (11, .pointer (some ⟨g106, 0, none⟩))]) (obs := [fun w => w.cell? ⟨g106, 0, none⟩ = some (.int .u64 p107), fun w => w.cell? ⟨g106, 0, none⟩ = some (.int .u64 p107), fun _ => 0 ≤ (13 : Int)]) (by kernel_rfl) (by kernel_rfl) (by kernel_rfl) (.inr fun w hs => ⟨hs.var (k := 0) rfl 0 rfl, hs.var (k := 0) rfl 0 rfl⟩) (fun w hS => ⟨hS.1, hS.2, (by decide : (0 : Int) ≤ 13)⟩) (fun w hs => ⟨hs.var (k := 0) rfl 0 rfl, hs.var (k := 0) rfl 0 rfl, (by decide : (0 : Int) ≤ 13)⟩) ?_
  refine at_x1 0 9 (#[true, true, true, true, true, true, true, true, true, true]) rfl (by kernel_rfl) (by kernel_rfl) rfl rfl ?_
  refine eff_store 0 rfl rfl rfl rfl rfl rfl (.inl (Nat.le_refl _)) rfl (Nat.le_of_ble_eq_true (by kernel_rfl)) rfl ?_
  refine at_xX (by kernel_rfl) ?_
  refine at_xend (by kernel_rfl) ?_
  refine at_thn ?_
  refine at_seq ?_
  refine at_x hmo (fun w => w.cell? ⟨g106, 0, none⟩ = some (.int .u64 (bitsV .xor .u64 p107 (IntKind.u64.wrap (p107 * 2 ^ 13)))) ∧ w.cell? ⟨g106, 0, none⟩ = some (.int .u64 (bitsV .xor .u64 p107 (IntKind.u64.wrap (p107 * 2 ^ 13))))) [9] ?_
  refine at_xseg [0, 1, 2, 3, 4, 5, 6, 7, 8] 1 (#[true, true, true, true, true, true, true, true, true, false]) rfl (by kernel_rfl) [(2, .int .u64 (bitsV .xor .u64 p107 (IntKind.u64.wrap (p107 * 2 ^ 13)))), (5, .int .u64 (bitsV .xor .u64 p107 (IntKind.u64.wrap (p107 * 2 ^ 13))))] [0, 19, 20] (L2 := [(0, .pointer (some ⟨g106, 0, none⟩)), (19, .int .u64 (bitsV .xor .u64 (bitsV .xor .u64 p107 (IntKind.u64.wrap (p107 * 2 ^ 13))) ((bitsV .xor .u64 p107 (IntKind.u64.wrap (p107 * 2 ^ 13))).fdiv (2 ^ 7)))), (20, .pointer (some ⟨g106, 0, none⟩))]) (obs := [fun w => w.cell? ⟨g106, 0, none⟩ = some (.int .u64 (bitsV .xor .u64 p107 (IntKind.u64.wrap (p107 * 2 ^ 13)))), fun w => w.cell? ⟨g106, 0, none⟩ = some (.int .u64 (bitsV .xor .u64 p107 (IntKind.u64.wrap (p107 * 2 ^ 13)))), fun _ => 0 ≤ (7 : Int)]) (by kernel_rfl) (by kernel_rfl) (by kernel_rfl) (.inr fun w hs => ⟨hs.var (k := 0) rfl 0 rfl, hs.var (k := 0) rfl 0 rfl⟩) (fun w hS => ⟨hS.1, hS.2, (by decide : (0 : Int) ≤ 7)⟩) (fun w hs => ⟨hs.var (k := 0) rfl 0 rfl, hs.var (k := 0) rfl 0 rfl, (by decide : (0 : Int) ≤ 7)⟩) ?_
  refine at_x1 0 9 (#[true, true, true, true, true, true, true, true, true, true]) rfl (by kernel_rfl) (by kernel_rfl) rfl rfl ?_
  refine eff_store 0 rfl rfl rfl rfl rfl rfl (.inl (Nat.le_refl _)) rfl (Nat.le_of_ble_eq_true (by kernel_rfl)) rfl ?_
  refine at_xX (by kernel_rfl) ?_
  refine at_xend (by kernel_rfl) ?_
  refine at_thn ?_
  refine at_seq ?_
  refine at_x hmo (fun w => w.cell? ⟨g106, 0, none⟩ = some (.int .u64 (bitsV .xor .u64 (bitsV .xor .u64 p107 (IntKind.u64.wrap (p107 * 2 ^ 13))) ((bitsV .xor .u64 p107 (IntKind.u64.wrap (p107 * 2 ^ 13))).fdiv (2 ^ 7)))) ∧ w.cell? ⟨g106, 0, none⟩ = some (.int .u64 (bitsV .xor .u64 (bitsV .xor .u64 p107 (IntKind.u64.wrap (p107 * 2 ^ 13))) ((bitsV .xor .u64 p107 (IntKind.u64.wrap (p107 * 2 ^ 13))).fdiv (2 ^ 7))))) [9] ?_
  refine at_xseg [0, 1, 2, 3, 4, 5, 6, 7, 8] 1 (#[true, true, true, true, true, true, true, true, true, false]) rfl (by kernel_rfl) [(2, .int .u64 (bitsV .xor .u64 (bitsV .xor .u64 p107 (IntKind.u64.wrap (p107 * 2 ^ 13))) ((bitsV .xor .u64 p107 (IntKind.u64.wrap (p107 * 2 ^ 13))).fdiv (2 ^ 7)))), (5, .int .u64 (bitsV .xor .u64 (bitsV .xor .u64 p107 (IntKind.u64.wrap (p107 * 2 ^ 13))) ((bitsV .xor .u64 p107 (IntKind.u64.wrap (p107 * 2 ^ 13))).fdiv (2 ^ 7))))] [0, 28, 29] (L2 := [(0, .pointer (some ⟨g106, 0, none⟩)), (28, .int .u64 (bitsV .xor .u64 (bitsV .xor .u64 (bitsV .xor .u64 p107 (IntKind.u64.wrap (p107 * 2 ^ 13))) ((bitsV .xor .u64 p107 (IntKind.u64.wrap (p107 * 2 ^ 13))).fdiv (2 ^ 7))) (IntKind.u64.wrap ((bitsV .xor .u64 (bitsV .xor .u64 p107 (IntKind.u64.wrap (p107 * 2 ^ 13))) ((bitsV .xor .u64 p107 (IntKind.u64.wrap (p107 * 2 ^ 13))).fdiv (2 ^ 7))) * 2 ^ 17)))), (29, .pointer (some ⟨g106, 0, none⟩))]) (obs := [fun w => w.cell? ⟨g106, 0, none⟩ = some (.int .u64 (bitsV .xor .u64 (bitsV .xor .u64 p107 (IntKind.u64.wrap (p107 * 2 ^ 13))) ((bitsV .xor .u64 p107 (IntKind.u64.wrap (p107 * 2 ^ 13))).fdiv (2 ^ 7)))), fun w => w.cell? ⟨g106, 0, none⟩ = some (.int .u64 (bitsV .xor .u64 (bitsV .xor .u64 p107 (IntKind.u64.wrap (p107 * 2 ^ 13))) ((bitsV .xor .u64 p107 (IntKind.u64.wrap (p107 * 2 ^ 13))).fdiv (2 ^ 7)))), fun _ => 0 ≤ (17 : Int)]) (by kernel_rfl) (by kernel_rfl) (by kernel_rfl) (.inr fun w hs => ⟨hs.var (k := 0) rfl 0 rfl, hs.var (k := 0) rfl 0 rfl⟩) (fun w hS => ⟨hS.1, hS.2, (by decide : (0 : Int) ≤ 17)⟩) (fun w hs => ⟨hs.var (k := 0) rfl 0 rfl, hs.var (k := 0) rfl 0 rfl, (by decide : (0 : Int) ≤ 17)⟩) ?_
  refine at_x1 0 9 (#[true, true, true, true, true, true, true, true, true, true]) rfl (by kernel_rfl) (by kernel_rfl) rfl rfl ?_
  refine eff_store 0 rfl rfl rfl rfl rfl rfl (.inl (Nat.le_refl _)) rfl (Nat.le_of_ble_eq_true (by kernel_rfl)) rfl ?_
  refine at_xX (by kernel_rfl) ?_
  refine at_xend (by kernel_rfl) ?_
  refine at_thn ?_
  refine at_seq ?_
  refine at_reg [(2, .int .u64 (bitsV .xor .u64 (bitsV .xor .u64 (bitsV .xor .u64 p107 (IntKind.u64.wrap (p107 * 2 ^ 13))) ((bitsV .xor .u64 p107 (IntKind.u64.wrap (p107 * 2 ^ 13))).fdiv (2 ^ 7))) (IntKind.u64.wrap ((bitsV .xor .u64 (bitsV .xor .u64 p107 (IntKind.u64.wrap (p107 * 2 ^ 13))) ((bitsV .xor .u64 p107 (IntKind.u64.wrap (p107 * 2 ^ 13))).fdiv (2 ^ 7))) * 2 ^ 17))))] [2] (L2 := [(2, .int .u64 (bitsV .xor .u64 (bitsV .xor .u64 (bitsV .xor .u64 p107 (IntKind.u64.wrap (p107 * 2 ^ 13))) ((bitsV .xor .u64 p107 (IntKind.u64.wrap (p107 * 2 ^ 13))).fdiv (2 ^ 7))) (IntKind.u64.wrap ((bitsV .xor .u64 (bitsV .xor .u64 p107 (IntKind.u64.wrap (p107 * 2 ^ 13))) ((bitsV .xor .u64 p107 (IntKind.u64.wrap (p107 * 2 ^ 13))).fdiv (2 ^ 7))) * 2 ^ 17))))]) (obs := [fun w => w.cell? ⟨g106, 0, none⟩ = some (.int .u64 (bitsV .xor .u64 (bitsV .xor .u64 (bitsV .xor .u64 p107 (IntKind.u64.wrap (p107 * 2 ^ 13))) ((bitsV .xor .u64 p107 (IntKind.u64.wrap (p107 * 2 ^ 13))).fdiv (2 ^ 7))) (IntKind.u64.wrap ((bitsV .xor .u64 (bitsV .xor .u64 p107 (IntKind.u64.wrap (p107 * 2 ^ 13))) ((bitsV .xor .u64 p107 (IntKind.u64.wrap (p107 * 2 ^ 13))).fdiv (2 ^ 7))) * 2 ^ 17))))]) (by kernel_rfl) ?_ ?_
  · intro w hs; exact hs.var (k := 0) rfl 0 rfl
  refine at_thn ?_
  refine at_ret ?_
  obtain rfl := Option.some.inj H
  refine at_done (vs := [.int .u64 (bitsV .xor .u64 (bitsV .xor .u64 (bitsV .xor .u64 p107 (IntKind.u64.wrap (p107 * 2 ^ 13))) ((bitsV .xor .u64 p107 (IntKind.u64.wrap (p107 * 2 ^ 13))).fdiv (2 ^ 7))) (IntKind.u64.wrap ((bitsV .xor .u64 (bitsV .xor .u64 p107 (IntKind.u64.wrap (p107 * 2 ^ 13))) ((bitsV .xor .u64 p107 (IntKind.u64.wrap (p107 * 2 ^ 13))).fdiv (2 ^ 7))) * 2 ^ 17)))]) (obs := []) (.inl rfl) [.tmp 2] [] rfl (by kernel_rfl) (fun w hs => trivial) (fun w hs => ⟨_, _, [[(g106, .cells #[.int .u64 (bitsV .xor .u64 (bitsV .xor .u64 (bitsV .xor .u64 p107 (IntKind.u64.wrap (p107 * 2 ^ 13))) ((bitsV .xor .u64 p107 (IntKind.u64.wrap (p107 * 2 ^ 13))).fdiv (2 ^ 7))) (IntKind.u64.wrap ((bitsV .xor .u64 (bitsV .xor .u64 p107 (IntKind.u64.wrap (p107 * 2 ^ 13))) ((bitsV .xor .u64 p107 (IntKind.u64.wrap (p107 * 2 ^ 13))).fdiv (2 ^ 7))) * 2 ^ 17)))] 48 (0, 0))]], rfl, ⟨rfl, rfl⟩, hle, hs⟩)

/-! ### slices.breakPatternsOrdered[string]: function 20 -/
mutual
def slices_breakPatternsOrdered_string_l0 : Nat → (List (List UInt8)) → Int → Int → Int → (List (List UInt8)) → Int → Int → Option (List (List UInt8))
  | 0, _, _, _, _, _, _, _ => none
  | k + 1, x112, x117, x118, b6, p97, p102, p103 => if x117 ≤ (IntKind.i64.wrap ((IntKind.i64.wrap (p102 + (IntKind.i64.wrap ((IntKind.i64.wrap ((IntKind.i64.wrap (p103 - p102)).tdiv 4)) * 2)))) + 1)) then ((slices_xorshift_Next x118).bind fun b7 => (if (IntKind.i64.wrap (bitsV .and .u64 b7.1 (IntKind.u64.wrap (b6 - 1)))) ≥ (IntKind.i64.wrap (p103 - p102)) then (slices_breakPatternsOrdered_string_j0 k (IntKind.i64.wrap ((IntKind.i64.wrap (bitsV .and .u64 b7.1 (IntKind.u64.wrap (b6 - 1)))) - (IntKind.i64.wrap (p103 - p102)))) b6 b7 p97 p102 p103 x112 x117) else (slices_breakPatternsOrdered_string_j0 k (IntKind.i64.wrap (bitsV .and .u64 b7.1 (IntKind.u64.wrap (b6 - 1)))) b6 b7 p97 p102 p103 x112 x117))) else (if x112.length = p97.length then (some x112) else none)
def slices_breakPatternsOrdered_string_j0 : Nat → Int → Int → (Int × Int) → (List (List UInt8)) → Int → Int → (List (List UInt8)) → Int → Option (List (List UInt8))
  | 0, _, _, _, _, _, _, _, _ => none
  | k + 1, x230, b6, b7, p97, p102, p103, x112, x117 => if 0 ≤ (IntKind.i64.wrap (p102 + x230)) then (if (IntKind.i64.wrap (p102 + x230)) < (x112.length : Int) then (if 0 ≤ x117 then (if x117 < (x112.length : Int) then (if (IntKind.i64.wrap (p102 + x230)) < ((x112.set x117.toNat (rdA [] x112 (IntKind.i64.wrap (p102 + x230)))).length : Int) then (slices_breakPatternsOrdered_string_l0 k ((x112.set x117.toNat (rdA [] x112 (IntKind.i64.wrap (p102 + x230)))).set (IntKind.i64.wrap (p102 + x230)).toNat (rdA [] x112 x117)) (IntKind.i64.wrap (x117 + 1)) b7.2 b6 p97 p102 p103) else none) else none) else none) else none) else none
end
def slices_breakPatternsOrdered_string (k : Nat) (p97 : List (List UInt8)) (p102 : Int) (p103 : Int) : Option (List (List UInt8)) := if (IntKind.i64.wrap (p103 - p102)) ≥ 8 then ((slices_nextPowerOfTwo k (IntKind.i64.wrap (p103 - p102))).bind fun b6 => (slices_breakPatternsOrdered_string_l0 k p97 (IntKind.i64.wrap ((IntKind.i64.wrap (p102 + (IntKind.i64.wrap ((IntKind.i64.wrap ((IntKind.i64.wrap (p103 - p102)).tdiv 4)) * 2)))) - 1)) (IntKind.u64.wrap (IntKind.i64.wrap (p103 - p102))) b6 p97 p102 p103)) else (some p97)
set_option maxHeartbeats 4000000 in
set_option maxRecDepth 100000 in
theorem slices_breakPatternsOrdered_string.calls {k : Nat} {p97 : List (List UInt8)} {p102 : Int} {p103 : Int} {r : (List (List UInt8))} {I0 : Imm} {A98 : Option Addr} {c99 : Nat} {s100 : Seg} (H : slices_breakPatternsOrdered_string k p97 p102 p103 = some r) (ho101 : Own Kd.string 9 I0 A98 c99 p97 s100) :
    Meets Try.prog 20 ([.slice A98 p97.length c99, .int .i64 p102, .int .i64 p103] : List Value).toArray I0 [s100] (fun v J M => ∃ (s_1 : Seg), v = .tuple #[] ∧ M = [s_1] ∧ Own Kd.string 9 J A98 c99 r s_1 ∧ r.length = p97.length) := by
  have hle := ImmLe.refl I0
  unfold slices_breakPatternsOrdered_string at H
  refine fn_intro (fn := Try.f20) 65 Try.func20 rfl rfl rfl (fun E Fs => ?_)
  refine at_seq ?_
  refine at_reg [] [0, 1, 6] (L2 := [(0, .slice A98 p97.length c99), (1, .int .i64 p102), (6, .int .i64 (IntKind.i64.wrap (p103 - p102)))]) (obs := []) (by kernel_rfl) ?_ ?_
  · intro w hs; exact trivial
  refine at_thn ?_
  refine at_seq ?_
  refine at_reg [] [0, 1, 6, 15] (L2 := [(0, .slice A98 p97.length c99), (1, .int .i64 p102), (6, .int .i64 (IntKind.i64.wrap (p103 - p102))), (15, .bool (decide ((IntKind.i64.wrap (p103 - p102)) ≥ 8)))]) (obs := []) (by kernel_rfl) ?_ ?_
  · intro w hs; exact trivial
  refine at_thn ?_
  by_cases h104 : (IntKind.i64.wrap (p103 - p102)) ≥ 8
  · rw [if_pos h104] at H
    refine at_cond_t rfl (decide_eq_true h104) ?_
    refine at_seq ?_
    refine at_ops [0, 1, 2, 3] rfl ?_
    refine at_seg [0, 1] [2, 3] rfl [] [0, 1, 6, 17] (L2 := [(0, .slice A98 p97.length c99), (1, .int .i64 p102), (6, .int .i64 (IntKind.i64.wrap (p103 - p102))), (17, .int .u64 (IntKind.u64.wrap (IntKind.i64.wrap (p103 - p102))))]) (obs := []) (by kernel_rfl) ?_ ?_
    · intro w hs; exact trivial
    refine at_eff rfl rfl ?_
    obtain ⟨i_, hi_, hz_, _, _⟩ := info48
    refine eff_alloc rfl rfl hi_ hz_ #[.int .u64 0] rfl (fun g105 => ?_)
    refine at_eff rfl rfl ?_
    refine eff_store 0 rfl rfl rfl rfl rfl rfl (.inl (Nat.le_refl _)) rfl (Nat.le_of_ble_eq_true (by kernel_rfl)) rfl ?_
    refine at_end ?_
    refine at_thn ?_
    refine at_seq ?_
    refine at_ops [0, 1, 2] rfl ?_
    refine at_seg [0] [1, 2] rfl [] [0, 1, 6, 7, 18] (L2 := [(0, .slice A98 p97.length c99), (1, .int .i64 p102), (6, .int .i64 (IntKind.i64.wrap (p103 - p102))), (7, .pointer (some ⟨g105, 0, none⟩)), (18, .int .i64 (IntKind.i64.wrap (p103 - p102)))]) (obs := []) (by kernel_rfl) ?_ ?_
    · intro w hs; exact trivial
    refine at_eff rfl rfl ?_
    obtain ⟨b6, H106, H⟩ := bind_some H
    have hm_ := slices_nextPowerOfTwo.calls (I0 := I0) H106
    refine eff_call rfl rfl ok30 rfl rfl (show Meets Try.prog 30 ([.int .i64 (IntKind.i64.wrap (p103 - p102))] : List Value).toArray _ [] _ from hm_) (Mr := ([(g105, .cells #[.int .u64 (IntKind.u64.wrap (IntKind.i64.wrap (p103 - p102)))] 48 (0, 0))] :: s100 :: Fs)) (List.Perm.refl _) (fun v107 J108 M109 hq110 hJ111 => ?_)
    replace hle := hle.trans hJ111
    replace ho101 := ho101.mono hJ111
    obtain ⟨rfl, rfl⟩ := hq110
    refine at_seg [2] [] rfl [] [0, 1, 6, 7, 8] (L2 := [(0, .slice A98 p97.length c99), (1, .int .i64 p102), (6, .int .i64 (IntKind.i64.wrap (p103 - p102))), (7, .pointer (some ⟨g105, 0, none⟩)), (8, .int .u64 b6)]) (obs := []) (by kernel_rfl) ?_ ?_
    · intro w hs; exact trivial
    refine at_end ?_
    refine at_thn ?_
    refine at_seq ?_
    refine at_reg [] [0, 1, 6, 7, 8, 9] (L2 := [(0, .slice A98 p97.length c99), (1, .int .i64 p102), (6, .int .i64 (IntKind.i64.wrap (p103 - p102))), (7, .pointer (some ⟨g105, 0, none⟩)), (8, .int .u64 b6), (9, .int .i64 (IntKind.i64.wrap ((IntKind.i64.wrap (p102 + (IntKind.i64.wrap ((IntKind.i64.wrap ((IntKind.i64.wrap (p103 - p102)).tdiv 4)) * 2)))) - 1)))]) (obs := [fun _ => ¬ (4 : Int) = 0]) (by kernel_rfl) ?_ ?_
    · intro w hs; exact (by decide : ¬ (4 : Int) = 0)
    refine at_thn ?_
    refine at_block ?_
    refine at_keep [0, 1, 6, 7, 8, 9] (L2 := [(0, .slice A98 p97.length c99), (1, .int .i64 p102), (6, .int .i64 (IntKind.i64.wrap (p103 - p102))), (7, .pointer (some ⟨g105, 0, none⟩)), (8, .int .u64 b6), (9, .int .i64 (IntKind.i64.wrap ((IntKind.i64.wrap (p102 + (IntKind.i64.wrap ((IntKind.i64.wrap ((IntKind.i64.wrap (p103 - p102)).tdiv 4)) * 2)))) - 1)))]) rfl ?_
    refine at_loop (fun k119 L I Ms => ∃ (x112 : List (List UInt8)) (s115 : Seg) (x117 : Int) (x118 : Int), L = [(0, .slice A98 x112.length c99), (1, .int .i64 p102), (6, .int .i64 (IntKind.i64.wrap (p103 - p102))), (7, .pointer (some ⟨g105, 0, none⟩)), (8, .int .u64 b6), (9, .int .i64 x117)] ∧ Ms = ([(g105, .cells #[.int .u64 x118] 48 (0, 0))] :: s115 :: Fs) ∧ slices_breakPatternsOrdered_string_l0 k119 x112 x117 x118 b6 p97 p102 p103 = some r ∧ ImmLe I0 I ∧ k119 ≤ k ∧ Own Kd.string 9 I A98 c99 x112 s115) ?_ ?_ k ⟨p97, s100, IntKind.i64.wrap ((IntKind.i64.wrap (p102 + (IntKind.i64.wrap ((IntKind.i64.wrap ((IntKind.i64.wrap (p103 - p102)).tdiv 4)) * 2)))) - 1), IntKind.u64.wrap (IntKind.i64.wrap (p103 - p102)), rfl, rfl, H, hle, Nat.le_refl _, ho101⟩
    · rintro L I Ms ⟨_, _, _, _, rfl, rfl, H, _⟩; exact no_none H
    · clear H hle ho101
      intro k119 ih120 L I Ms h_; obtain ⟨x112, s115, x117, x118, hL_, hM_, H, hle, hk121, ho116⟩ := h_; rw [hL_, hM_]; clear hL_ hM_ L Ms
      rw [slices_breakPatternsOrdered_string_l0] at H
      refine at_seq ?_
      refine at_seq ?_
      refine at_reg [] [0, 1, 6, 7, 8, 9, 33] (L2 := [(0, .slice A98 x112.length c99), (1, .int .i64 p102), (6, .int .i64 (IntKind.i64.wrap (p103 - p102))), (7, .pointer (some ⟨g105, 0, none⟩)), (8, .int .u64 b6), (9, .int .i64 x117), (33, .bool (decide (x117 ≤ (IntKind.i64.wrap ((IntKind.i64.wrap (p102 + (IntKind.i64.wrap ((IntKind.i64.wrap ((IntKind.i64.wrap (p103 - p102)).tdiv 4)) * 2)))) + 1)))))]) (obs := [fun _ => ¬ (4 : Int) = 0]) (by kernel_rfl) ?_ ?_
      · intro w hs; exact (by decide : ¬ (4 : Int) = 0)
      refine at_thn ?_
      by_cases h122 : x117 ≤ (IntKind.i64.wrap ((IntKind.i64.wrap (p102 + (IntKind.i64.wrap ((IntKind.i64.wrap ((IntKind.i64.wrap (p103 - p102)).tdiv 4)) * 2)))) + 1))
      · rw [if_pos h122] at H
        refine at_cond_t rfl (decide_eq_true h122) ?_
        refine at_skip ?_
        refine at_thn ?_
        refine at_seq ?_
        refine at_block ?_
        refine at_seq ?_
        refine at_ops [0, 1, 2, 3, 4, 5] rfl ?_
        refine at_eff rfl rfl ?_
        obtain ⟨b7, H123, H⟩ := bind_some H
        refine eff_call rfl rfl ok31 rfl rfl (show Meets Try.prog 31 ([.pointer (some ⟨g105, 0, none⟩)] : List Value).toArray _ [[(g105, .cells #[.int .u64 x118] 48 (0, 0))]] _ from slices_xorshift_Next.calls H123) (Mr := (s115 :: Fs)) (List.Perm.refl _) (fun v124 J125 M126 hq127 hJ128 => ?_)
        replace hle := hle.trans hJ128
        replace ho116 := ho116.mono hJ128
        obtain ⟨rfl, rfl⟩ := hq127
        refine at_seg [1, 2, 3, 4, 5] [] rfl [] [0, 1, 6, 7, 8, 9, 10] (L2 := [(0, .slice A98 x112.length c99), (1, .int .i64 p102), (6, .int .i64 (IntKind.i64.wrap (p103 - p102))), (7, .pointer (some ⟨g105, 0, none⟩)), (8, .int .u64 b6), (9, .int .i64 x117), (10, .int .i64 (IntKind.i64.wrap (bitsV .and .u64 b7.1 (IntKind.u64.wrap (b6 - 1)))))]) (obs := []) (by kernel_rfl) ?_ ?_
        · intro w hs; exact trivial
        refine at_end ?_
        refine at_thn ?_
        refine at_join (fun L I Ms => ∃ (k231 : Nat), ∃ (x230 : Int), L = [(0, .slice A98 x112.length c99), (1, .int .i64 p102), (6, .int .i64 (IntKind.i64.wrap (p103 - p102))), (7, .pointer (some ⟨g105, 0, none⟩)), (8, .int .u64 b6), (9, .int .i64 x117), (10, .int .i64 x230)] ∧ Ms = ([(g105, .cells #[.int .u64 b7.2] 48 (0, 0))] :: s115 :: Fs) ∧ slices_breakPatternsOrdered_string_j0 k231 x230 b6 b7 p97 p102 p103 x112 x117 = some r ∧ ImmLe I0 I ∧ k231 ≤ k119 ∧ Own Kd.string 9 I A98 c99 x112 s115) ?_ ?_
        · clear H hle ho116
          intro L I Ms h_; obtain ⟨k231, x230, hL_, hM_, H, hle, hk232, ho116⟩ := h_; rw [hL_, hM_]; clear hL_ hM_ L Ms
          rcases k231 with _ | k231
          · exact (no_none H).elim
          rw [slices_breakPatternsOrdered_string_j0] at H
          obtain ⟨h233, H⟩ := ite_some H
          obtain ⟨h234, H⟩ := ite_some H
          obtain ⟨h235, H⟩ := ite_some H
          obtain ⟨h236, H⟩ := ite_some H
          refine at_x hmo (fun w => w.cell? ((A98.getD ad0).add ((IntKind.i64.wrap (p102 + x230)).toNat * 1)) = some (str (rdA [] x112 (IntKind.i64.wrap (p102 + x230)))) ∧ w.cell? ((A98.getD ad0).add (x117.toNat * 1)) = some (str (rdA [] x112 x117))) [17, 19] ?_
          refine at_xseg [0, 1, 2, 3, 4, 5, 6, 7, 8, 9, 10, 11, 12, 13, 14, 15, 16] 3 (#[true, true, true, true, true, true, true, true, true, true, true, true, true, true, true, true, true, false, false, false]) rfl (by kernel_rfl) [(11, str (rdA [] x112 (IntKind.i64.wrap (p102 + x230)))), (15, str (rdA [] x112 x117))] [0, 1, 6, 7, 8, 9, 49, 52, 58, 62, 63] (L2 := [(0, .slice A98 x112.length c99), (1, .int .i64 p102), (6, .int .i64 (IntKind.i64.wrap (p103 - p102))), (7, .pointer (some ⟨g105, 0, none⟩)), (8, .int .u64 b6), (9, .int .i64 x117), (49, .slice A98 x112.length c99), (52, .int .i64 (IntKind.i64.wrap (p102 + x230))), (58, str (rdA [] x112 (IntKind.i64.wrap (p102 + x230)))), (62, str (rdA [] x112 x117)), (63, .pointer (some ((A98.getD ad0).add (x117.toNat * 1))))]) (obs := [fun _ => A98.isSome = true ∧ 0 ≤ (IntKind.i64.wrap (p102 + x230)) ∧ (IntKind.i64.wrap (p102 + x230)) < ((x112.length : Nat) : Int), fun w => w.cell? ((A98.getD ad0).add ((IntKind.i64.wrap (p102 + x230)).toNat * 1)) = some (str (rdA [] x112 (IntKind.i64.wrap (p102 + x230)))), fun _ => A98.isSome = true ∧ 0 ≤ x117 ∧ x117 < ((x112.length : Nat) : Int), fun w => w.cell? ((A98.getD ad0).add (x117.toNat * 1)) = some (str (rdA [] x112 x117)), fun _ => A98.isSome = true ∧ 0 ≤ x117 ∧ x117 < ((x112.length : Nat) : Int)]) (by kernel_rfl) (by kernel_rfl) (by kernel_rfl) (.inr fun w hs => ⟨ho116.one [] (IntKind.i64.wrap (p102 + x230)) h233 h234 hs (k := 1) rfl, ho116.one [] x117 h235 h236 hs (k := 1) rfl⟩) (fun w hS => ⟨⟨ho116.ne (IntKind.i64.wrap (p102 + x230)) h233 h234, h233, h234⟩, hS.1, ⟨ho116.ne x117 h235 h236, h235, h236⟩, hS.2, ⟨ho116.ne x117 h235 h236, h235, h236⟩⟩) (fun w hs => ⟨⟨ho116.ne (IntKind.i64.wrap (p102 + x230)) h233 h234, h233, h234⟩, ho116.one [] (IntKind.i64.wrap (p102 + x230)) h233 h234 hs (k := 1) rfl, ⟨ho116.ne x117 h235 h236, h235, h236⟩, ho116.one [] x117 h235 h236 hs (k := 1) rfl, ⟨ho116.ne x117 h235 h236, h235, h236⟩⟩) ?_
          refine at_x1 2 17 (#[true, true, true, true, true, true, true, true, true, true, true, true, true, true, true, true, true, true, false, false]) rfl (by kernel_rfl) (by kernel_rfl) rfl rfl ?_
          refine eff_storeOwn (K := Kd.string) (u := rdA [] x112 (IntKind.i64.wrap (p102 + x230))) 1 0 [] x117 rfl rfl rfl rfl ho116 rfl h235 h236 (add0 _).symm rfl (Nat.le_of_ble_eq_true (by kernel_rfl)) rfl (by rintro cs_ rfl; rfl) (fun s237 ho238 => ?_)
          refine at_eqL2 (L1 := [(0, .slice A98 x112.length c99), (1, .int .i64 p102), (6, .int .i64 (IntKind.i64.wrap (p103 - p102))), (7, .pointer (some ⟨g105, 0, none⟩)), (8, .int .u64 b6), (9, .int .i64 x117), (49, .slice A98 x112.length c99), (52, .int .i64 (IntKind.i64.wrap (p102 + x230))), (58, str (rdA [] x112 (IntKind.i64.wrap (p102 + x230)))), (62, str (rdA [] x112 x117)), (63, .pointer (some ((A98.getD ad0).add (x117.toNat * 1))))]) (L2 := [(0, .slice A98 (x112.set x117.toNat (rdA [] x112 (IntKind.i64.wrap (p102 + x230)))).length c99), (1, .int .i64 p102), (6, .int .i64 (IntKind.i64.wrap (p103 - p102))), (7, .pointer (some ⟨g105, 0, none⟩)), (8, .int .u64 b6), (9, .int .i64 x117), (49, .slice A98 (x112.set x117.toNat (rdA [] x112 (IntKind.i64.wrap (p102 + x230)))).length c99), (52, .int .i64 (IntKind.i64.wrap (p102 + x230))), (58, str (rdA [] x112 (IntKind.i64.wrap (p102 + x230)))), (62, str (rdA [] x112 x117)), (63, .pointer (some ((A98.getD ad0).add (x117.toNat * 1))))]) rfl (by simp only [List.length_set]) ?_
          refine at_xX (by kernel_rfl) ?_
          obtain ⟨h239, H⟩ := ite_some H
          refine at_xseg [18] 1 (#[true, true, true, true, true, true, true, true, true, true, true, true, true, true, true, true, true, true, true, false]) rfl (by kernel_rfl) [] [0, 1, 6, 7, 8, 9, 62, 64] (L2 := [(0, .slice A98 (x112.set x117.toNat (rdA [] x112 (IntKind.i64.wrap (p102 + x230)))).length c99), (1, .int .i64 p102), (6, .int .i64 (IntKind.i64.wrap (p103 - p102))), (7, .pointer (some ⟨g105, 0, none⟩)), (8, .int .u64 b6), (9, .int .i64 x117), (62, str (rdA [] x112 x117)), (64, .pointer (some ((A98.getD ad0).add ((IntKind.i64.wrap (p102 + x230)).toNat * 1))))]) (obs := [fun _ => A98.isSome = true ∧ 0 ≤ (IntKind.i64.wrap (p102 + x230)) ∧ (IntKind.i64.wrap (p102 + x230)) < (((x112.set x117.toNat (rdA [] x112 (IntKind.i64.wrap (p102 + x230)))).length : Nat) : Int)]) (by kernel_rfl) (by kernel_rfl) (by kernel_rfl) (.inl (by kernel_rfl)) (fun w hS => ⟨ho238.ne (IntKind.i64.wrap (p102 + x230)) h233 h239, h233, h239⟩) (fun w hs => ⟨ho238.ne (IntKind.i64.wrap (p102 + x230)) h233 h239, h233, h239⟩) ?_
          refine at_x1 0 19 (#[true, true, true, true, true, true, true, true, true, true, true, true, true, true, true, true, true, true, true, true]) rfl (by kernel_rfl) (by kernel_rfl) rfl rfl ?_
          refine eff_storeOwn (K := Kd.string) (u := rdA [] x112 x117) 1 0 [] (IntKind.i64.wrap (p102 + x230)) rfl rfl rfl rfl ho238 rfl h233 h239 (add0 _).symm rfl (Nat.le_of_ble_eq_true (by kernel_rfl)) rfl (by rintro cs_ rfl; rfl) (fun s240 ho241 => ?_)
          refine at_eqL2 (L1 := [(0, .slice A98 (x112.set x117.toNat (rdA [] x112 (IntKind.i64.wrap (p102 + x230)))).length c99), (1, .int .i64 p102), (6, .int .i64 (IntKind.i64.wrap (p103 - p102))), (7, .pointer (some ⟨g105, 0, none⟩)), (8, .int .u64 b6), (9, .int .i64 x117), (62, str (rdA [] x112 x117)), (64, .pointer (some ((A98.getD ad0).add ((IntKind.i64.wrap (p102 + x230)).toNat * 1))))]) (L2 := [(0, .slice A98 ((x112.set x117.toNat (rdA [] x112 (IntKind.i64.wrap (p102 + x230)))).set (IntKind.i64.wrap (p102 + x230)).toNat (rdA [] x112 x117)).length c99), (1, .int .i64 p102), (6, .int .i64 (IntKind.i64.wrap (p103 - p102))), (7, .pointer (some ⟨g105, 0, none⟩)), (8, .int .u64 b6), (9, .int .i64 x117), (62, str (rdA [] x112 x117)), (64, .pointer (some ((A98.getD ad0).add ((IntKind.i64.wrap (p102 + x230)).toNat * 1))))]) rfl (by simp only [List.length_set]) ?_
          refine at_xX (by kernel_rfl) ?_
          refine at_xend (by kernel_rfl) ?_
          refine at_in_norm ?_
          refine at_thn ?_
          refine at_reg [] [0, 1, 6, 7, 8, 9] (L2 := [(0, .slice A98 ((x112.set x117.toNat (rdA [] x112 (IntKind.i64.wrap (p102 + x230)))).set (IntKind.i64.wrap (p102 + x230)).toNat (rdA [] x112 x117)).length c99), (1, .int .i64 p102), (6, .int .i64 (IntKind.i64.wrap (p103 - p102))), (7, .pointer (some ⟨g105, 0, none⟩)), (8, .int .u64 b6), (9, .int .i64 (IntKind.i64.wrap (x117 + 1)))]) (obs := []) (by kernel_rfl) ?_ ?_
          · intro w hs; exact trivial
          refine at_thn ?_
          refine at_keep [0, 1, 6, 7, 8, 9] (L2 := [(0, .slice A98 ((x112.set x117.toNat (rdA [] x112 (IntKind.i64.wrap (p102 + x230)))).set (IntKind.i64.wrap (p102 + x230)).toNat (rdA [] x112 x117)).length c99), (1, .int .i64 p102), (6, .int .i64 (IntKind.i64.wrap (p103 - p102))), (7, .pointer (some ⟨g105, 0, none⟩)), (8, .int .u64 b6), (9, .int .i64 (IntKind.i64.wrap (x117 + 1)))]) rfl ?_
          exact ih120 _ (by omega) _ _ _ ⟨(x112.set x117.toNat (rdA [] x112 (IntKind.i64.wrap (p102 + x230)))).set (IntKind.i64.wrap (p102 + x230)).toNat (rdA [] x112 x117), s240, IntKind.i64.wrap (x117 + 1), b7.2, rfl, rfl, H, hle, by omega, ho241⟩
        · intro Jn129
          refine at_seq ?_
          refine at_reg [] [0, 1, 6, 7, 8, 9, 10, 43] (L2 := [(0, .slice A98 x112.length c99), (1, .int .i64 p102), (6, .int .i64 (IntKind.i64.wrap (p103 - p102))), (7, .pointer (some ⟨g105, 0, none⟩)), (8, .int .u64 b6), (9, .int .i64 x117), (10, .int .i64 (IntKind.i64.wrap (bitsV .and .u64 b7.1 (IntKind.u64.wrap (b6 - 1))))), (43, .bool (decide ((IntKind.i64.wrap (bitsV .and .u64 b7.1 (IntKind.u64.wrap (b6 - 1)))) ≥ (IntKind.i64.wrap (p103 - p102)))))]) (obs := []) (by kernel_rfl) ?_ ?_
          · intro w hs; exact trivial
          refine at_thn ?_
          by_cases h242 : (IntKind.i64.wrap (bitsV .and .u64 b7.1 (IntKind.u64.wrap (b6 - 1)))) ≥ (IntKind.i64.wrap (p103 - p102))
          · rw [if_pos h242] at H
            refine at_cond_t rfl (decide_eq_true h242) ?_
            refine at_reg [] [0, 1, 6, 7, 8, 9, 10] (L2 := [(0, .slice A98 x112.length c99), (1, .int .i64 p102), (6, .int .i64 (IntKind.i64.wrap (p103 - p102))), (7, .pointer (some ⟨g105, 0, none⟩)), (8, .int .u64 b6), (9, .int .i64 x117), (10, .int .i64 (IntKind.i64.wrap ((IntKind.i64.wrap (bitsV .and .u64 b7.1 (IntKind.u64.wrap (b6 - 1)))) - (IntKind.i64.wrap (p103 - p102)))))]) (obs := []) (by kernel_rfl) ?_ ?_
            · intro w hs; exact trivial
            refine at_thn ?_
            refine at_keep [0, 1, 6, 7, 8, 9, 10] (L2 := [(0, .slice A98 x112.length c99), (1, .int .i64 p102), (6, .int .i64 (IntKind.i64.wrap (p103 - p102))), (7, .pointer (some ⟨g105, 0, none⟩)), (8, .int .u64 b6), (9, .int .i64 x117), (10, .int .i64 (IntKind.i64.wrap ((IntKind.i64.wrap (bitsV .and .u64 b7.1 (IntKind.u64.wrap (b6 - 1)))) - (IntKind.i64.wrap (p103 - p102)))))]) rfl ?_
            exact Jn129 _ _ _ ⟨_, IntKind.i64.wrap ((IntKind.i64.wrap (bitsV .and .u64 b7.1 (IntKind.u64.wrap (b6 - 1)))) - (IntKind.i64.wrap (p103 - p102))), rfl, rfl, H, hle, by omega, ho116⟩
          · rw [if_neg h242] at H
            refine at_cond_f rfl (decide_eq_false h242) ?_
            refine at_skip ?_
            refine at_thn ?_
            refine at_keep [0, 1, 6, 7, 8, 9, 10] (L2 := [(0, .slice A98 x112.length c99), (1, .int .i64 p102), (6, .int .i64 (IntKind.i64.wrap (p103 - p102))), (7, .pointer (some ⟨g105, 0, none⟩)), (8, .int .u64 b6), (9, .int .i64 x117), (10, .int .i64 (IntKind.i64.wrap (bitsV .and .u64 b7.1 (IntKind.u64.wrap (b6 - 1)))))]) rfl ?_
            exact Jn129 _ _ _ ⟨_, IntKind.i64.wrap (bitsV .and .u64 b7.1 (IntKind.u64.wrap (b6 - 1))), rfl, rfl, H, hle, by omega, ho116⟩
      · rw [if_neg h122] at H
        refine at_cond_f rfl (decide_eq_false h122) ?_
        refine at_exit ?_
        refine at_then_exit ?_
        refine at_then_exit ?_
        refine at_in_hit ?_
        obtain ⟨h243, H⟩ := ite_some H
        obtain rfl := Option.some.inj H
        refine at_drop (k := 0) rfl rfl ?_
        refine at_done (vs := []) (obs := []) (.inr rfl) [] [] rfl (by kernel_rfl) (fun w hs => trivial) (fun w hs => ⟨_, _, [s115], rfl, ⟨s115, rfl, rfl, ho116, h243⟩, hle, hs⟩)
  · rw [if_neg h104] at H
    refine at_cond_f rfl (decide_eq_false h104) ?_
    refine at_skip ?_
    obtain rfl := Option.some.inj H
    refine at_done (vs := []) (obs := []) (.inr rfl) [] [] rfl (by kernel_rfl) (fun w hs => trivial) (fun w hs => ⟨_, _, [s100], rfl, ⟨s100, rfl, rfl, ho101, rfl⟩, hle, hs⟩)
end Go.Proofs.Ytgdbigafcjaohaa
