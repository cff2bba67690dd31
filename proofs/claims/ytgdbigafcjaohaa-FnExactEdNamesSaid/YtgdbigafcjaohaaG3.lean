import Derived.Test.YtgdbigafcjaohaaG2
namespace Go.Proofs.Ytgdbigafcjaohaa
open Go Eng
set_option linter.unusedVariables false
set_option linter.unusedSimpArgs false
/-! ### slices.heapSortOrdered[string]: function 19 -/
mutual
def slices_heapSortOrdered_string_l1 : Nat → (List (List UInt8)) → Int → (List (List UInt8)) → Int → Int → Option (List (List UInt8))
  | 0, _, _, _, _, _ => none
  | k + 1, x214, x219, p70, p75, p76 => if x219 ≥ 0 then ((slices_siftDownOrdered_string k x214 x219 (IntKind.i64.wrap (p76 - p75)) p75).bind fun b6 => (slices_heapSortOrdered_string_l1 k b6 (IntKind.i64.wrap (x219 - 1)) p70 p75 p76)) else (slices_heapSortOrdered_string_j0 k x214 p70 p75 p76)
def slices_heapSortOrdered_string_j0 : Nat → (List (List UInt8)) → (List (List UInt8)) → Int → Int → Option (List (List UInt8))
  | 0, _, _, _, _ => none
  | k + 1, x178, p70, p75, p76 => slices_heapSortOrdered_string_l0 k x178 (IntKind.i64.wrap ((IntKind.i64.wrap (p76 - p75)) - 1)) p70 p75
def slices_heapSortOrdered_string_l0 : Nat → (List (List UInt8)) → Int → (List (List UInt8)) → Int → Option (List (List UInt8))
  | 0, _, _, _, _ => none
  | k + 1, x185, x190, p70, p75 => if x190 ≥ 0 then (if 0 ≤ (IntKind.i64.wrap (p75 + x190)) then (if (IntKind.i64.wrap (p75 + x190)) < (x185.length : Int) then (if 0 ≤ p75 then (if p75 < (x185.length : Int) then (if (IntKind.i64.wrap (p75 + x190)) < ((x185.set p75.toNat (rdA [] x185 (IntKind.i64.wrap (p75 + x190)))).length : Int) then ((slices_siftDownOrdered_string k ((x185.set p75.toNat (rdA [] x185 (IntKind.i64.wrap (p75 + x190)))).set (IntKind.i64.wrap (p75 + x190)).toNat (rdA [] x185 p75)) 0 x190 p75).bind fun b5 => (slices_heapSortOrdered_string_l0 k b5 (IntKind.i64.wrap (x190 - 1)) p70 p75)) else none) else none) else none) else none) else none) else (if x185.length = p70.length then (some x185) else none)
end
def slices_heapSortOrdered_string (k : Nat) (p70 : List (List UInt8)) (p75 : Int) (p76 : Int) : Option (List (List UInt8)) := slices_heapSortOrdered_string_l1 k p70 (IntKind.i64.wrap ((IntKind.i64.wrap ((IntKind.i64.wrap (p76 - p75)) - 1)).tdiv 2)) p70 p75 p76
set_option maxHeartbeats 4000000 in
set_option maxRecDepth 100000 in
theorem slices_heapSortOrdered_string.calls {k : Nat} {p70 : List (List UInt8)} {p75 : Int} {p76 : Int} {r : (List (List UInt8))} {I0 : Imm} {A71 : Option Addr} {c72 : Nat} {s73 : Seg} (H : slices_heapSortOrdered_string k p70 p75 p76 = some r) (ho74 : Own Kd.string 9 I0 A71 c72 p70 s73) :
    Meets Try.prog 19 ([.slice A71 p70.length c72, .int .i64 p75, .int .i64 p76] : List Value).toArray I0 [s73] (fun v J M => ∃ (s_1 : Seg), v = .tuple #[] ∧ M = [s_1] ∧ Own Kd.string 9 J A71 c72 r s_1 ∧ r.length = p70.length) := by
  have hle := ImmLe.refl I0
  unfold slices_heapSortOrdered_string at H
  refine fn_intro (fn := Try.f19) 56 Try.func19 rfl rfl rfl (fun E Fs => ?_)
  refine at_seq ?_
  refine at_reg [] [0, 1, 2, 6] (L2 := [(0, .slice A71 p70.length c72), (1, .int .i64 p75), (2, .int .i64 p76), (6, .int .i64 p75)]) (obs := []) (by kernel_rfl) ?_ ?_
  · intro w hs; exact trivial
  refine at_thn ?_
  refine at_seq ?_
  refine at_reg [] [0, 1, 2, 6, 7] (L2 := [(0, .slice A71 p70.length c72), (1, .int .i64 p75), (2, .int .i64 p76), (6, .int .i64 p75), (7, .int .i64 0)]) (obs := []) (by kernel_rfl) ?_ ?_
  · intro w hs; exact trivial
  refine at_thn ?_
  refine at_seq ?_
  refine at_reg [] [0, 6, 7, 8] (L2 := [(0, .slice A71 p70.length c72), (6, .int .i64 p75), (7, .int .i64 0), (8, .int .i64 (IntKind.i64.wrap (p76 - p75)))]) (obs := []) (by kernel_rfl) ?_ ?_
  · intro w hs; exact trivial
  refine at_thn ?_
  refine at_join (fun L I Ms => ∃ (k183 : Nat), ∃ (x178 : List (List UInt8)) (s181 : Seg), L = [(0, .slice A71 x178.length c72), (6, .int .i64 p75), (7, .int .i64 0), (8, .int .i64 (IntKind.i64.wrap (p76 - p75)))] ∧ Ms = (s181 :: Fs) ∧ slices_heapSortOrdered_string_j0 k183 x178 p70 p75 p76 = some r ∧ ImmLe I0 I ∧ k183 ≤ k ∧ Own Kd.string 9 I A71 c72 x178 s181) ?_ ?_
  · clear H hle ho74
    intro L I Ms h_; obtain ⟨k183, x178, s181, hL_, hM_, H, hle, hk184, ho182⟩ := h_; rw [hL_, hM_]; clear hL_ hM_ L Ms
    rcases k183 with _ | k183
    · exact (no_none H).elim
    rw [slices_heapSortOrdered_string_j0] at H
    refine at_seq ?_
    refine at_reg [] [0, 6, 7, 10] (L2 := [(0, .slice A71 x178.length c72), (6, .int .i64 p75), (7, .int .i64 0), (10, .int .i64 (IntKind.i64.wrap ((IntKind.i64.wrap (p76 - p75)) - 1)))]) (obs := []) (by kernel_rfl) ?_ ?_
    · intro w hs; exact trivial
    refine at_thn ?_
    refine at_block ?_
    refine at_keep [0, 6, 7, 10] (L2 := [(0, .slice A71 x178.length c72), (6, .int .i64 p75), (7, .int .i64 0), (10, .int .i64 (IntKind.i64.wrap ((IntKind.i64.wrap (p76 - p75)) - 1)))]) rfl ?_
    refine at_loop (fun k191 L I Ms => ∃ (x185 : List (List UInt8)) (s188 : Seg) (x190 : Int), L = [(0, .slice A71 x185.length c72), (6, .int .i64 p75), (7, .int .i64 0), (10, .int .i64 x190)] ∧ Ms = (s188 :: Fs) ∧ slices_heapSortOrdered_string_l0 k191 x185 x190 p70 p75 = some r ∧ ImmLe I0 I ∧ k191 ≤ k183 ∧ Own Kd.string 9 I A71 c72 x185 s188) ?_ ?_ k183 ⟨x178, s181, IntKind.i64.wrap ((IntKind.i64.wrap (p76 - p75)) - 1), rfl, rfl, H, hle, Nat.le_refl _, ho182⟩
    · rintro L I Ms ⟨_, _, _, rfl, rfl, H, _⟩; exact no_none H
    · clear H hle ho182
      intro k191 ih192 L I Ms h_; obtain ⟨x185, s188, x190, hL_, hM_, H, hle, hk193, ho189⟩ := h_; rw [hL_, hM_]; clear hL_ hM_ L Ms
      rw [slices_heapSortOrdered_string_l0] at H
      refine at_seq ?_
      refine at_seq ?_
      refine at_reg [] [0, 6, 7, 10, 30] (L2 := [(0, .slice A71 x185.length c72), (6, .int .i64 p75), (7, .int .i64 0), (10, .int .i64 x190), (30, .bool (decide (x190 ≥ 0)))]) (obs := []) (by kernel_rfl) ?_ ?_
      · intro w hs; exact trivial
      refine at_thn ?_
      by_cases h194 : x190 ≥ 0
      · rw [if_pos h194] at H
        refine at_cond_t rfl (decide_eq_true h194) ?_
        refine at_skip ?_
        refine at_thn ?_
        refine at_seq ?_
        refine at_block ?_
        refine at_seq ?_
        obtain ⟨h195, H⟩ := ite_some H
        obtain ⟨h196, H⟩ := ite_some H
        obtain ⟨h197, H⟩ := ite_some H
        obtain ⟨h198, H⟩ := ite_some H
        refine at_x hmo (fun w => w.cell? ((A71.getD ad0).add ((IntKind.i64.wrap (p75 + x190)).toNat * 1)) = some (str (rdA [] x185 (IntKind.i64.wrap (p75 + x190)))) ∧ w.cell? ((A71.getD ad0).add (p75.toNat * 1)) = some (str (rdA [] x185 p75))) [17, 19] ?_
        refine at_xseg [0, 1, 2, 3, 4, 5, 6, 7, 8, 9, 10, 11, 12, 13, 14, 15, 16] 3 (#[true, true, true, true, true, true, true, true, true, true, true, true, true, true, true, true, true, false, false, false]) rfl (by kernel_rfl) [(11, str (rdA [] x185 (IntKind.i64.wrap (p75 + x190)))), (15, str (rdA [] x185 p75))] [0, 6, 7, 10, 35, 38, 44, 48, 49] (L2 := [(0, .slice A71 x185.length c72), (6, .int .i64 p75), (7, .int .i64 0), (10, .int .i64 x190), (35, .slice A71 x185.length c72), (38, .int .i64 (IntKind.i64.wrap (p75 + x190))), (44, str (rdA [] x185 (IntKind.i64.wrap (p75 + x190)))), (48, str (rdA [] x185 p75)), (49, .pointer (some ((A71.getD ad0).add (p75.toNat * 1))))]) (obs := [fun _ => A71.isSome = true ∧ 0 ≤ (IntKind.i64.wrap (p75 + x190)) ∧ (IntKind.i64.wrap (p75 + x190)) < ((x185.length : Nat) : Int), fun w => w.cell? ((A71.getD ad0).add ((IntKind.i64.wrap (p75 + x190)).toNat * 1)) = some (str (rdA [] x185 (IntKind.i64.wrap (p75 + x190)))), fun _ => A71.isSome = true ∧ 0 ≤ p75 ∧ p75 < ((x185.length : Nat) : Int), fun w => w.cell? ((A71.getD ad0).add (p75.toNat * 1)) = some (str (rdA [] x185 p75)), fun _ => A71.isSome = true ∧ 0 ≤ p75 ∧ p75 < ((x185.length : Nat) : Int)]) (by kernel_rfl) (by kernel_rfl) (by kernel_rfl) (.inr fun w hs => ⟨ho189.one [] (IntKind.i64.wrap (p75 + x190)) h195 h196 hs (k := 0) rfl, ho189.one [] p75 h197 h198 hs (k := 0) rfl⟩) (fun w hS => ⟨⟨ho189.ne (IntKind.i64.wrap (p75 + x190)) h195 h196, h195, h196⟩, hS.1, ⟨ho189.ne p75 h197 h198, h197, h198⟩, hS.2, ⟨ho189.ne p75 h197 h198, h197, h198⟩⟩) (fun w hs => ⟨⟨ho189.ne (IntKind.i64.wrap (p75 + x190)) h195 h196, h195, h196⟩, ho189.one [] (IntKind.i64.wrap (p75 + x190)) h195 h196 hs (k := 0) rfl, ⟨ho189.ne p75 h197 h198, h197, h198⟩, ho189.one [] p75 h197 h198 hs (k := 0) rfl, ⟨ho189.ne p75 h197 h198, h197, h198⟩⟩) ?_
        refine at_x1 2 17 (#[true, true, true, true, true, true, true, true, true, true, true, true, true, true, true, true, true, true, false, false]) rfl (by kernel_rfl) (by kernel_rfl) rfl rfl ?_
        refine eff_storeOwn (K := Kd.string) (u := rdA [] x185 (IntKind.i64.wrap (p75 + x190))) 0 0 [] p75 rfl rfl rfl rfl ho189 rfl h197 h198 (add0 _).symm rfl (Nat.le_of_ble_eq_true (by kernel_rfl)) rfl (by rintro cs_ rfl; rfl) (fun s199 ho200 => ?_)
        refine at_eqL2 (L1 := [(0, .slice A71 x185.length c72), (6, .int .i64 p75), (7, .int .i64 0), (10, .int .i64 x190), (35, .slice A71 x185.length c72), (38, .int .i64 (IntKind.i64.wrap (p75 + x190))), (44, str (rdA [] x185 (IntKind.i64.wrap (p75 + x190)))), (48, str (rdA [] x185 p75)), (49, .pointer (some ((A71.getD ad0).add (p75.toNat * 1))))]) (L2 := [(0, .slice A71 (x185.set p75.toNat (rdA [] x185 (IntKind.i64.wrap (p75 + x190)))).length c72), (6, .int .i64 p75), (7, .int .i64 0), (10, .int .i64 x190), (35, .slice A71 (x185.set p75.toNat (rdA [] x185 (IntKind.i64.wrap (p75 + x190)))).length c72), (38, .int .i64 (IntKind.i64.wrap (p75 + x190))), (44, str (rdA [] x185 (IntKind.i64.wrap (p75 + x190)))), (48, str (rdA [] x185 p75)), (49, .pointer (some ((A71.getD ad0).add (p75.toNat * 1))))]) rfl (by simp only [List.length_set]) ?_
        refine at_xX (by kernel_rfl) ?_
        obtain ⟨h201, H⟩ := ite_some H
        refine at_xseg [18] 1 (#[true, true, true, true, true, true, true, true, true, true, true, true, true, true, true, true, true, true, true, false]) rfl (by kernel_rfl) [] [0, 6, 7, 10, 48, 50] (L2 := [(0, .slice A71 (x185.set p75.toNat (rdA [] x185 (IntKind.i64.wrap (p75 + x190)))).length c72), (6, .int .i64 p75), (7, .int .i64 0), (10, .int .i64 x190), (48, str (rdA [] x185 p75)), (50, .pointer (some ((A71.getD ad0).add ((IntKind.i64.wrap (p75 + x190)).toNat * 1))))]) (obs := [fun _ => A71.isSome = true ∧ 0 ≤ (IntKind.i64.wrap (p75 + x190)) ∧ (IntKind.i64.wrap (p75 + x190)) < (((x185.set p75.toNat (rdA [] x185 (IntKind.i64.wrap (p75 + x190)))).length : Nat) : Int)]) (by kernel_rfl) (by kernel_rfl) (by kernel_rfl) (.inl (by kernel_rfl)) (fun w hS => ⟨ho200.ne (IntKind.i64.wrap (p75 + x190)) h195 h201, h195, h201⟩) (fun w hs => ⟨ho200.ne (IntKind.i64.wrap (p75 + x190)) h195 h201, h195, h201⟩) ?_
        refine at_x1 0 19 (#[true, true, true, true, true, true, true, true, true, true, true, true, true, true, true, true, true, true, true, true]) rfl (by kernel_rfl) (by kernel_rfl) rfl rfl ?_
        refine eff_storeOwn (K := Kd.string) (u := rdA [] x185 p75) 0 0 [] (IntKind.i64.wrap (p75 + x190)) rfl rfl rfl rfl ho200 rfl h195 h201 (add0 _).symm rfl (Nat.le_of_ble_eq_true (by kernel_rfl)) rfl (by rintro cs_ rfl; rfl) (fun s202 ho203 => ?_)
        refine at_eqL2 (L1 := [(0, .slice A71 (x185.set p75.toNat (rdA [] x185 (IntKind.i64.wrap (p75 + x190)))).length c72), (6, .int .i64 p75), (7, .int .i64 0), (10, .int .i64 x190), (48, str (rdA [] x185 p75)), (50, .pointer (some ((A71.getD ad0).add ((IntKind.i64.wrap (p75 + x190)).toNat * 1))))]) (L2 := [(0, .slice A71 ((x185.set p75.toNat (rdA [] x185 (IntKind.i64.wrap (p75 + x190)))).set (IntKind.i64.wrap (p75 + x190)).toNat (rdA [] x185 p75)).length c72), (6, .int .i64 p75), (7, .int .i64 0), (10, .int .i64 x190), (48, str (rdA [] x185 p75)), (50, .pointer (some ((A71.getD ad0).add ((IntKind.i64.wrap (p75 + x190)).toNat * 1))))]) rfl (by simp only [List.length_set]) ?_
        refine at_xX (by kernel_rfl) ?_
        refine at_xend (by kernel_rfl) ?_
        refine at_thn ?_
        refine at_ops [0, 1, 2, 3, 4] rfl ?_
        refine at_seg [0, 1, 2, 3] [4] rfl [] [0, 6, 7, 10, 51, 52, 53, 54] (L2 := [(0, .slice A71 ((x185.set p75.toNat (rdA [] x185 (IntKind.i64.wrap (p75 + x190)))).set (IntKind.i64.wrap (p75 + x190)).toNat (rdA [] x185 p75)).length c72), (6, .int .i64 p75), (7, .int .i64 0), (10, .int .i64 x190), (51, .slice A71 ((x185.set p75.toNat (rdA [] x185 (IntKind.i64.wrap (p75 + x190)))).set (IntKind.i64.wrap (p75 + x190)).toNat (rdA [] x185 p75)).length c72), (52, .int .i64 0), (53, .int .i64 x190), (54, .int .i64 p75)]) (obs := []) (by kernel_rfl) ?_ ?_
        · intro w hs; exact trivial
        refine at_eff rfl rfl ?_
        obtain ⟨b5, H204, H⟩ := bind_some H
        have hm_ := slices_siftDownOrdered_string.calls (I0 := I) H204 ho203
        refine eff_call rfl rfl ok29 rfl rfl (show Meets Try.prog 29 ([.slice A71 ((x185.set p75.toNat (rdA [] x185 (IntKind.i64.wrap (p75 + x190)))).set (IntKind.i64.wrap (p75 + x190)).toNat (rdA [] x185 p75)).length c72, .int .i64 0, .int .i64 x190, .int .i64 p75] : List Value).toArray _ [s202] _ from hm_) (Mr := (Fs)) (List.Perm.refl _) (fun v205 J206 M207 hq208 hJ209 => ?_)
        replace hle := hle.trans hJ209
        replace ho203 := ho203.mono hJ209
        obtain ⟨s210, rfl, rfl, ho211, hl212⟩ := hq208
        refine at_keep [0, 6, 7, 10, 51, 52, 53, 54, 55] (L2 := [(0, .slice A71 ((x185.set p75.toNat (rdA [] x185 (IntKind.i64.wrap (p75 + x190)))).set (IntKind.i64.wrap (p75 + x190)).toNat (rdA [] x185 p75)).length c72), (6, .int .i64 p75), (7, .int .i64 0), (10, .int .i64 x190), (51, .slice A71 ((x185.set p75.toNat (rdA [] x185 (IntKind.i64.wrap (p75 + x190)))).set (IntKind.i64.wrap (p75 + x190)).toNat (rdA [] x185 p75)).length c72), (52, .int .i64 0), (53, .int .i64 x190), (54, .int .i64 p75), (55, undef)]) rfl ?_
        refine at_eqL2 (L1 := [(0, .slice A71 ((x185.set p75.toNat (rdA [] x185 (IntKind.i64.wrap (p75 + x190)))).set (IntKind.i64.wrap (p75 + x190)).toNat (rdA [] x185 p75)).length c72), (6, .int .i64 p75), (7, .int .i64 0), (10, .int .i64 x190), (51, .slice A71 ((x185.set p75.toNat (rdA [] x185 (IntKind.i64.wrap (p75 + x190)))).set (IntKind.i64.wrap (p75 + x190)).toNat (rdA [] x185 p75)).length c72), (52, .int .i64 0), (53, .int .i64 x190), (54, .int .i64 p75), (55, undef)]) (L2 := [(0, .slice A71 b5.length c72), (6, .int .i64 p75), (7, .int .i64 0), (10, .int .i64 x190), (51, .slice A71 b5.length c72), (52, .int .i64 0), (53, .int .i64 x190), (54, .int .i64 p75), (55, undef)]) rfl (by rw [hl212]) ?_
        refine at_end ?_
        refine at_in_norm ?_
        refine at_thn ?_
        refine at_reg [] [0, 6, 7, 10] (L2 := [(0, .slice A71 b5.length c72), (6, .int .i64 p75), (7, .int .i64 0), (10, .int .i64 (IntKind.i64.wrap (x190 - 1)))]) (obs := []) (by kernel_rfl) ?_ ?_
        · intro w hs; exact trivial
        refine at_thn ?_
        refine at_keep [0, 6, 7, 10] (L2 := [(0, .slice A71 b5.length c72), (6, .int .i64 p75), (7, .int .i64 0), (10, .int .i64 (IntKind.i64.wrap (x190 - 1)))]) rfl ?_
        exact ih192 _ (by omega) _ _ _ ⟨b5, s210, IntKind.i64.wrap (x190 - 1), rfl, rfl, H, hle, by omega, ho211⟩
      · rw [if_neg h194] at H
        refine at_cond_f rfl (decide_eq_false h194) ?_
        refine at_exit ?_
        refine at_then_exit ?_
        refine at_then_exit ?_
        refine at_in_hit ?_
        obtain ⟨h213, H⟩ := ite_some H
        obtain rfl := Option.some.inj H
        refine at_done (vs := []) (obs := []) (.inr rfl) [] [] rfl (by kernel_rfl) (fun w hs => trivial) (fun w hs => ⟨_, _, [s188], rfl, ⟨s188, rfl, rfl, ho189, h213⟩, hle, hs⟩)
  · intro Jn77
    refine at_seq ?_
    refine at_reg [] [0, 6, 7, 8, 9] (L2 := [(0, .slice A71 p70.length c72), (6, .int .i64 p75), (7, .int .i64 0), (8, .int .i64 (IntKind.i64.wrap (p76 - p75))), (9, .int .i64 (IntKind.i64.wrap ((IntKind.i64.wrap ((IntKind.i64.wrap (p76 - p75)) - 1)).tdiv 2)))]) (obs := [fun _ => ¬ (2 : Int) = 0]) (by kernel_rfl) ?_ ?_
    · intro w hs; exact (by decide : ¬ (2 : Int) = 0)
    refine at_thn ?_
    refine at_block ?_
    refine at_keep [0, 6, 7, 8, 9] (L2 := [(0, .slice A71 p70.length c72), (6, .int .i64 p75), (7, .int .i64 0), (8, .int .i64 (IntKind.i64.wrap (p76 - p75))), (9, .int .i64 (IntKind.i64.wrap ((IntKind.i64.wrap ((IntKind.i64.wrap (p76 - p75)) - 1)).tdiv 2)))]) rfl ?_
    refine at_loop (fun k220 L I Ms => ∃ (x214 : List (List UInt8)) (s217 : Seg) (x219 : Int), L = [(0, .slice A71 x214.length c72), (6, .int .i64 p75), (7, .int .i64 0), (8, .int .i64 (IntKind.i64.wrap (p76 - p75))), (9, .int .i64 x219)] ∧ Ms = (s217 :: Fs) ∧ slices_heapSortOrdered_string_l1 k220 x214 x219 p70 p75 p76 = some r ∧ ImmLe I0 I ∧ k220 ≤ k ∧ Own Kd.string 9 I A71 c72 x214 s217) ?_ ?_ k ⟨p70, s73, IntKind.i64.wrap ((IntKind.i64.wrap ((IntKind.i64.wrap (p76 - p75)) - 1)).tdiv 2), rfl, rfl, H, hle, Nat.le_refl _, ho74⟩
    · rintro L I Ms ⟨_, _, _, rfl, rfl, H, _⟩; exact no_none H
    · clear H hle ho74
      intro k220 ih221 L I Ms h_; obtain ⟨x214, s217, x219, hL_, hM_, H, hle, hk222, ho218⟩ := h_; rw [hL_, hM_]; clear hL_ hM_ L Ms
      rw [slices_heapSortOrdered_string_l1] at H
      refine at_seq ?_
      refine at_seq ?_
      refine at_reg [] [0, 6, 7, 8, 9, 19] (L2 := [(0, .slice A71 x214.length c72), (6, .int .i64 p75), (7, .int .i64 0), (8, .int .i64 (IntKind.i64.wrap (p76 - p75))), (9, .int .i64 x219), (19, .bool (decide (x219 ≥ 0)))]) (obs := []) (by kernel_rfl) ?_ ?_
      · intro w hs; exact trivial
      refine at_thn ?_
      by_cases h223 : x219 ≥ 0
      · rw [if_pos h223] at H
        refine at_cond_t rfl (decide_eq_true h223) ?_
        refine at_skip ?_
        refine at_thn ?_
        refine at_seq ?_
        refine at_block ?_
        refine at_ops [0, 1, 2, 3, 4] rfl ?_
        refine at_seg [0, 1, 2, 3] [4] rfl [] [0, 6, 7, 8, 9, 22, 23, 24, 25] (L2 := [(0, .slice A71 x214.length c72), (6, .int .i64 p75), (7, .int .i64 0), (8, .int .i64 (IntKind.i64.wrap (p76 - p75))), (9, .int .i64 x219), (22, .slice A71 x214.length c72), (23, .int .i64 x219), (24, .int .i64 (IntKind.i64.wrap (p76 - p75))), (25, .int .i64 p75)]) (obs := []) (by kernel_rfl) ?_ ?_
        · intro w hs; exact trivial
        refine at_eff rfl rfl ?_
        obtain ⟨b6, H224, H⟩ := bind_some H
        have hm_ := slices_siftDownOrdered_string.calls (I0 := I) H224 ho218
        refine eff_call rfl rfl ok29 rfl rfl (show Meets Try.prog 29 ([.slice A71 x214.length c72, .int .i64 x219, .int .i64 (IntKind.i64.wrap (p76 - p75)), .int .i64 p75] : List Value).toArray _ [s217] _ from hm_) (Mr := (Fs)) (List.Perm.refl _) (fun v225 J226 M227 hq228 hJ229 => ?_)
        replace hle := hle.trans hJ229
        replace ho218 := ho218.mono hJ229
        obtain ⟨s230, rfl, rfl, ho231, hl232⟩ := hq228
        refine at_keep [0, 6, 7, 8, 9, 22, 23, 24, 25, 26] (L2 := [(0, .slice A71 x214.length c72), (6, .int .i64 p75), (7, .int .i64 0), (8, .int .i64 (IntKind.i64.wrap (p76 - p75))), (9, .int .i64 x219), (22, .slice A71 x214.length c72), (23, .int .i64 x219), (24, .int .i64 (IntKind.i64.wrap (p76 - p75))), (25, .int .i64 p75), (26, undef)]) rfl ?_
        refine at_eqL2 (L1 := [(0, .slice A71 x214.length c72), (6, .int .i64 p75), (7, .int .i64 0), (8, .int .i64 (IntKind.i64.wrap (p76 - p75))), (9, .int .i64 x219), (22, .slice A71 x214.length c72), (23, .int .i64 x219), (24, .int .i64 (IntKind.i64.wrap (p76 - p75))), (25, .int .i64 p75), (26, undef)]) (L2 := [(0, .slice A71 b6.length c72), (6, .int .i64 p75), (7, .int .i64 0), (8, .int .i64 (IntKind.i64.wrap (p76 - p75))), (9, .int .i64 x219), (22, .slice A71 b6.length c72), (23, .int .i64 x219), (24, .int .i64 (IntKind.i64.wrap (p76 - p75))), (25, .int .i64 p75), (26, undef)]) rfl (by rw [hl232]) ?_
        refine at_end ?_
        refine at_in_norm ?_
        refine at_thn ?_
        refine at_reg [] [0, 6, 7, 8, 9] (L2 := [(0, .slice A71 b6.length c72), (6, .int .i64 p75), (7, .int .i64 0), (8, .int .i64 (IntKind.i64.wrap (p76 - p75))), (9, .int .i64 (IntKind.i64.wrap (x219 - 1)))]) (obs := []) (by kernel_rfl) ?_ ?_
        · intro w hs; exact trivial
        refine at_thn ?_
        refine at_keep [0, 6, 7, 8, 9] (L2 := [(0, .slice A71 b6.length c72), (6, .int .i64 p75), (7, .int .i64 0), (8, .int .i64 (IntKind.i64.wrap (p76 - p75))), (9, .int .i64 (IntKind.i64.wrap (x219 - 1)))]) rfl ?_
        exact ih221 _ (by omega) _ _ _ ⟨b6, s230, IntKind.i64.wrap (x219 - 1), rfl, rfl, H, hle, by omega, ho231⟩
      · rw [if_neg h223] at H
        refine at_cond_f rfl (decide_eq_false h223) ?_
        refine at_exit ?_
        refine at_then_exit ?_
        refine at_then_exit ?_
        refine at_in_hit ?_
        refine at_thn ?_
        refine at_keep [0, 6, 7, 8] (L2 := [(0, .slice A71 x214.length c72), (6, .int .i64 p75), (7, .int .i64 0), (8, .int .i64 (IntKind.i64.wrap (p76 - p75)))]) rfl ?_
        exact Jn77 _ _ _ ⟨_, x214, s217, rfl, rfl, H, hle, by omega, ho218⟩

/-! ### slices.order2Ordered[string]: function 35 -/
def slices_order2Ordered_string (p98 : List (List UInt8)) (p102 : Int) (p103 : Int) (p105 : Int) : Option (Int × Int × Int) := if 0 ≤ p103 then (if p103 < (p98.length : Int) then (if 0 ≤ p102 then (if p102 < (p98.length : Int) then ((cmp_Less_string (rdA [] p98 p103) (rdA [] p98 p102)).bind fun b6 => (if b6 = true then (some (p103, p102, IntKind.i64.wrap (p105 + 1))) else (some (p102, p103, p105)))) else none) else none) else none) else none
set_option maxHeartbeats 4000000 in
set_option maxRecDepth 100000 in
theorem slices_order2Ordered_string.calls {p98 : List (List UInt8)} {p102 : Int} {p103 : Int} {p105 : Int} {r : Int × Int × Int} {I0 : Imm} {A99 : Option Addr} {c100 : Nat} {g104 : Nat} (H : slices_order2Ordered_string p98 p102 p103 p105 = some r) (hr101 : Rd Kd.string I0 A99 c100 p98) :
    Meets Try.prog 35 ([.slice A99 p98.length c100, .int .i64 p102, .int .i64 p103, .pointer (some ⟨g104, 0, none⟩)] : List Value).toArray I0 [[(g104, .cells #[.int .i64 p105] 3 (0, 0))]] (fun v J M => v = .tuple #[.int .i64 r.1, .int .i64 r.2.1] ∧ M = [[(g104, .cells #[.int .i64 r.2.2] 3 (0, 0))]]) := by
  have hle := ImmLe.refl I0
  unfold slices_order2Ordered_string at H
  refine fn_intro (fn := Try.f35) 28 Try.func35 rfl rfl rfl (fun E Fs => ?_)
  refine at_seq ?_
  refine at_reg [] [0, 1, 2, 3] (L2 := [(0, .slice A99 p98.length c100), (1, .int .i64 p102), (2, .int .i64 p103), (3, .pointer (some ⟨g104, 0, none⟩))]) (obs := []) (by kernel_rfl) ?_ ?_
  · intro w hs; exact trivial
  refine at_thn ?_
  refine at_seq ?_
  refine at_seq ?_
  obtain ⟨h106, H⟩ := ite_some H
  obtain ⟨h107, H⟩ := ite_some H
  obtain ⟨h108, H⟩ := ite_some H
  obtain ⟨h109, H⟩ := ite_some H
  refine at_x hmo (fun w => w.cell? ((A99.getD ad0).add (p103.toNat * 1)) = some (str (rdA [] p98 p103)) ∧ w.cell? ((A99.getD ad0).add (p102.toNat * 1)) = some (str (rdA [] p98 p102))) [] ?_
  refine at_xseg [0, 1, 2, 3, 4, 5, 6, 7] 1 (#[true, true, true, true, true, true, true, true, false]) rfl (by kernel_rfl) [(3, str (rdA [] p98 p103)), (7, str (rdA [] p98 p102))] [1, 2, 3, 13, 17] (L2 := [(1, .int .i64 p102), (2, .int .i64 p103), (3, .pointer (some ⟨g104, 0, none⟩)), (13, str (rdA [] p98 p103)), (17, str (rdA [] p98 p102))]) (obs := [fun _ => A99.isSome = true ∧ 0 ≤ p103 ∧ p103 < ((p98.length : Nat) : Int), fun w => w.cell? ((A99.getD ad0).add (p103.toNat * 1)) = some (str (rdA [] p98 p103)), fun _ => A99.isSome = true ∧ 0 ≤ p102 ∧ p102 < ((p98.length : Nat) : Int), fun w => w.cell? ((A99.getD ad0).add (p102.toNat * 1)) = some (str (rdA [] p98 p102))]) (by kernel_rfl) (by kernel_rfl) (by kernel_rfl) (.inr fun w hs => ⟨hr101.one [] p103 h106 h107 hs, hr101.one [] p102 h108 h109 hs⟩) (fun w hS => ⟨⟨hr101.ne p103 h106 h107, h106, h107⟩, hS.1, ⟨hr101.ne p102 h108 h109, h108, h109⟩, hS.2⟩) (fun w hs => ⟨⟨hr101.ne p103 h106 h107, h106, h107⟩, hr101.one [] p103 h106 h107 hs, ⟨hr101.ne p102 h108 h109, h108, h109⟩, hr101.one [] p102 h108 h109 hs⟩) ?_
  refine at_x1 0 8 (#[true, true, true, true, true, true, true, true, true]) rfl (by kernel_rfl) (by kernel_rfl) rfl rfl ?_
  obtain ⟨b6, H110, H⟩ := bind_some H
  have hm_ := cmp_Less_string.calls (I0 := I0) H110
  refine eff_call rfl rfl ok24 rfl rfl (show Meets Try.prog 24 ([str (rdA [] p98 p103), str (rdA [] p98 p102)] : List Value).toArray _ [] _ from hm_) (Mr := ([(g104, .cells #[.int .i64 p105] 3 (0, 0))] :: Fs)) (List.Perm.refl _) (fun v111 J112 M113 hq114 hJ115 => ?_)
  replace hle := hle.trans hJ115
  replace hr101 := hr101.mono hJ115
  obtain ⟨rfl, rfl⟩ := hq114
  refine at_xS (fun w hs => ⟨hr101.one [] p103 h106 h107 hs, hr101.one [] p102 h108 h109 hs⟩) ?_
  refine at_xend (by kernel_rfl) ?_
  refine at_thn ?_
  by_cases h116 : b6 = true
  · rw [if_pos h116] at H
    refine at_cond_t rfl (h116) ?_
    refine at_seq ?_
    refine at_ops [0, 1, 2, 3, 4, 5] rfl ?_
    refine at_seg [0, 1, 2, 3, 4] [5] rfl [(2, .int .i64 p105)] [1, 2, 22, 23] (L2 := [(1, .int .i64 p102), (2, .int .i64 p103), (22, .int .i64 (IntKind.i64.wrap (p105 + 1))), (23, .pointer (some ⟨g104, 0, none⟩))]) (obs := [fun w => w.cell? ⟨g104, 0, none⟩ = some (.int .i64 p105)]) (by kernel_rfl) ?_ ?_
    · intro w hs; exact hs.var (k := 0) rfl 0 rfl
    refine at_eff rfl rfl ?_
    refine eff_store 0 rfl rfl rfl rfl rfl rfl (.inl (Nat.le_refl _)) rfl (Nat.le_of_ble_eq_true (by kernel_rfl)) rfl ?_
    refine at_end ?_
    refine at_thn ?_
    refine at_seq ?_
    refine at_reg [] [8, 9] (L2 := [(8, .int .i64 p103), (9, .int .i64 p102)]) (obs := []) (by kernel_rfl) ?_ ?_
    · intro w hs; exact trivial
    refine at_thn ?_
    refine at_ret ?_
    refine at_then_ret ?_
    obtain rfl := Option.some.inj H
    refine at_done (vs := [.int .i64 p103, .int .i64 p102]) (obs := []) (.inl rfl) [.tmp 8, .tmp 9] [] rfl (by kernel_rfl) (fun w hs => trivial) (fun w hs => ⟨_, _, [[(g104, .cells #[.int .i64 (IntKind.i64.wrap (p105 + 1))] 3 (0, 0))]], rfl, ⟨rfl, rfl⟩, hle, hs⟩)
  · rw [if_neg h116] at H
    refine at_cond_f rfl (ff_of h116) ?_
    refine at_skip ?_
    refine at_thn ?_
    refine at_seq ?_
    refine at_reg [] [8, 9] (L2 := [(8, .int .i64 p102), (9, .int .i64 p103)]) (obs := []) (by kernel_rfl) ?_ ?_
    · intro w hs; exact trivial
    refine at_thn ?_
    refine at_ret ?_
    obtain rfl := Option.some.inj H
    refine at_done (vs := [.int .i64 p102, .int .i64 p103]) (obs := []) (.inl rfl) [.tmp 8, .tmp 9] [] rfl (by kernel_rfl) (fun w hs => trivial) (fun w hs => ⟨_, _, [[(g104, .cells #[.int .i64 p105] 3 (0, 0))]], rfl, ⟨rfl, rfl⟩, hle, hs⟩)

/-! ### slices.medianOrdered[string]: function 33 -/
def slices_medianOrdered_string (p89 : List (List UInt8)) (p93 : Int) (p94 : Int) (p95 : Int) (p97 : Int) : Option (Int × Int) := (slices_order2Ordered_string p89 p93 p94 p97).bind fun b6 => ((slices_order2Ordered_string p89 b6.2.1 p95 b6.2.2).bind fun b7 => ((slices_order2Ordered_string p89 b6.1 b7.1 b7.2.2).bind fun b8 => (some (b8.2.1, b8.2.2))))
set_option maxHeartbeats 4000000 in
set_option maxRecDepth 100000 in
theorem slices_medianOrdered_string.calls {p89 : List (List UInt8)} {p93 : Int} {p94 : Int} {p95 : Int} {p97 : Int} {r : Int × Int} {I0 : Imm} {A90 : Option Addr} {c91 : Nat} {g96 : Nat} (H : slices_medianOrdered_string p89 p93 p94 p95 p97 = some r) (hr92 : Rd Kd.string I0 A90 c91 p89) :
    Meets Try.prog 33 ([.slice A90 p89.length c91, .int .i64 p93, .int .i64 p94, .int .i64 p95, .pointer (some ⟨g96, 0, none⟩)] : List Value).toArray I0 [[(g96, .cells #[.int .i64 p97] 3 (0, 0))]] (fun v J M => v = .int .i64 r.1 ∧ M = [[(g96, .cells #[.int .i64 r.2] 3 (0, 0))]]) := by
  have hle := ImmLe.refl I0
  unfold slices_medianOrdered_string at H
  refine fn_intro (fn := Try.f33) 36 Try.func33 rfl rfl rfl (fun E Fs => ?_)
  refine at_seq ?_
  refine at_reg [] [0, 1, 2, 3, 4] (L2 := [(0, .slice A90 p89.length c91), (1, .int .i64 p93), (2, .int .i64 p94), (3, .int .i64 p95), (4, .pointer (some ⟨g96, 0, none⟩))]) (obs := []) (by kernel_rfl) ?_ ?_
  · intro w hs; exact trivial
  refine at_thn ?_
  refine at_seq ?_
  refine at_ops [0, 1, 2, 3, 4, 5, 6, 7, 8, 9] rfl ?_
  refine at_seg [0, 1, 2, 3] [4, 5, 6, 7, 8, 9] rfl [] [0, 1, 2, 3, 4, 12, 13, 14, 15] (L2 := [(0, .slice A90 p89.length c91), (1, .int .i64 p93), (2, .int .i64 p94), (3, .int .i64 p95), (4, .pointer (some ⟨g96, 0, none⟩)), (12, .slice A90 p89.length c91), (13, .int .i64 p93), (14, .int .i64 p94), (15, .pointer (some ⟨g96, 0, none⟩))]) (obs := []) (by kernel_rfl) ?_ ?_
  · intro w hs; exact trivial
  refine at_eff rfl rfl ?_
  obtain ⟨b6, H98, H⟩ := bind_some H
  refine eff_call rfl rfl ok35 rfl rfl (show Meets Try.prog 35 ([.slice A90 p89.length c91, .int .i64 p93, .int .i64 p94, .pointer (some ⟨g96, 0, none⟩)] : List Value).toArray _ [[(g96, .cells #[.int .i64 p97] 3 (0, 0))]] _ from slices_order2Ordered_string.calls H98 hr92) (Mr := (Fs)) (List.Perm.refl _) (fun v99 J100 M101 hq102 hJ103 => ?_)
  replace hle := hle.trans hJ103
  replace hr92 := hr92.mono hJ103
  obtain ⟨rfl, rfl⟩ := hq102
  refine at_seg [5, 6, 7, 8, 9] [] rfl [] [0, 1, 2, 3, 4] (L2 := [(0, .slice A90 p89.length c91), (1, .int .i64 b6.1), (2, .int .i64 b6.2.1), (3, .int .i64 p95), (4, .pointer (some ⟨g96, 0, none⟩))]) (obs := []) (by kernel_rfl) ?_ ?_
  · intro w hs; exact trivial
  refine at_end ?_
  refine at_thn ?_
  refine at_seq ?_
  refine at_ops [0, 1, 2, 3, 4, 5, 6, 7, 8, 9] rfl ?_
  refine at_seg [0, 1, 2, 3] [4, 5, 6, 7, 8, 9] rfl [] [0, 1, 2, 4, 20, 21, 22, 23] (L2 := [(0, .slice A90 p89.length c91), (1, .int .i64 b6.1), (2, .int .i64 b6.2.1), (4, .pointer (some ⟨g96, 0, none⟩)), (20, .slice A90 p89.length c91), (21, .int .i64 b6.2.1), (22, .int .i64 p95), (23, .pointer (some ⟨g96, 0, none⟩))]) (obs := []) (by kernel_rfl) ?_ ?_
  · intro w hs; exact trivial
  refine at_eff rfl rfl ?_
  obtain ⟨b7, H104, H⟩ := bind_some H
  refine eff_call rfl rfl ok35 rfl rfl (show Meets Try.prog 35 ([.slice A90 p89.length c91, .int .i64 b6.2.1, .int .i64 p95, .pointer (some ⟨g96, 0, none⟩)] : List Value).toArray _ [[(g96, .cells #[.int .i64 b6.2.2] 3 (0, 0))]] _ from slices_order2Ordered_string.calls H104 hr92) (Mr := (Fs)) (List.Perm.refl _) (fun v105 J106 M107 hq108 hJ109 => ?_)
  replace hle := hle.trans hJ109
  replace hr92 := hr92.mono hJ109
  obtain ⟨rfl, rfl⟩ := hq108
  refine at_seg [5, 6, 7, 8, 9] [] rfl [] [0, 1, 2, 4] (L2 := [(0, .slice A90 p89.length c91), (1, .int .i64 b6.1), (2, .int .i64 b7.1), (4, .pointer (some ⟨g96, 0, none⟩))]) (obs := []) (by kernel_rfl) ?_ ?_
  · intro w hs; exact trivial
  refine at_end ?_
  refine at_thn ?_
  refine at_seq ?_
  refine at_ops [0, 1, 2, 3, 4, 5, 6, 7, 8, 9] rfl ?_
  refine at_seg [0, 1, 2, 3] [4, 5, 6, 7, 8, 9] rfl [] [2, 28, 29, 30, 31] (L2 := [(2, .int .i64 b7.1), (28, .slice A90 p89.length c91), (29, .int .i64 b6.1), (30, .int .i64 b7.1), (31, .pointer (some ⟨g96, 0, none⟩))]) (obs := []) (by kernel_rfl) ?_ ?_
  · intro w hs; exact trivial
  refine at_eff rfl rfl ?_
  obtain ⟨b8, H110, H⟩ := bind_some H
  refine eff_call rfl rfl ok35 rfl rfl (show Meets Try.prog 35 ([.slice A90 p89.length c91, .int .i64 b6.1, .int .i64 b7.1, .pointer (some ⟨g96, 0, none⟩)] : List Value).toArray _ [[(g96, .cells #[.int .i64 b7.2.2] 3 (0, 0))]] _ from slices_order2Ordered_string.calls H110 hr92) (Mr := (Fs)) (List.Perm.refl _) (fun v111 J112 M113 hq114 hJ115 => ?_)
  replace hle := hle.trans hJ115
  replace hr92 := hr92.mono hJ115
  obtain ⟨rfl, rfl⟩ := hq114
  refine at_seg [5, 6, 7, 8, 9] [] rfl [] [2] (L2 := [(2, .int .i64 b8.2.1)]) (obs := []) (by kernel_rfl) ?_ ?_
  · intro w hs; exact trivial
  refine at_end ?_
  refine at_thn ?_
  refine at_seq ?_
  refine at_reg [] [10] (L2 := [(10, .int .i64 b8.2.1)]) (obs := []) (by kernel_rfl) ?_ ?_
  · intro w hs; exact trivial
  refine at_thn ?_
  refine at_ret ?_
  obtain rfl := Option.some.inj H
  refine at_done (vs := [.int .i64 b8.2.1]) (obs := []) (.inl rfl) [.tmp 10] [] rfl (by kernel_rfl) (fun w hs => trivial) (fun w hs => ⟨_, _, [[(g96, .cells #[.int .i64 b8.2.2] 3 (0, 0))]], rfl, ⟨rfl, rfl⟩, hle, hs⟩)

/-! ### slices.medianAdjacentOrdered[string]: function 32 -/
def slices_medianAdjacentOrdered_string (p82 : List (List UInt8)) (p86 : Int) (p88 : Int) : Option (Int × Int) := (slices_medianOrdered_string p82 (IntKind.i64.wrap (p86 - 1)) p86 (IntKind.i64.wrap (p86 + 1)) p88).bind fun b6 => (some (b6.1, b6.2))
set_option maxHeartbeats 4000000 in
set_option maxRecDepth 100000 in
theorem slices_medianAdjacentOrdered_string.calls {p82 : List (List UInt8)} {p86 : Int} {p88 : Int} {r : Int × Int} {I0 : Imm} {A83 : Option Addr} {c84 : Nat} {g87 : Nat} (H : slices_medianAdjacentOrdered_string p82 p86 p88 = some r) (hr85 : Rd Kd.string I0 A83 c84 p82) :
    Meets Try.prog 32 ([.slice A83 p82.length c84, .int .i64 p86, .pointer (some ⟨g87, 0, none⟩)] : List Value).toArray I0 [[(g87, .cells #[.int .i64 p88] 3 (0, 0))]] (fun v J M => v = .int .i64 r.1 ∧ M = [[(g87, .cells #[.int .i64 r.2] 3 (0, 0))]]) := by
  have hle := ImmLe.refl I0
  unfold slices_medianAdjacentOrdered_string at H
  refine fn_intro (fn := Try.f32) 15 Try.func32 rfl rfl rfl (fun E Fs => ?_)
  refine at_seq ?_
  refine at_reg [] [0, 1, 2] (L2 := [(0, .slice A83 p82.length c84), (1, .int .i64 p86), (2, .pointer (some ⟨g87, 0, none⟩))]) (obs := []) (by kernel_rfl) ?_ ?_
  · intro w hs; exact trivial
  refine at_thn ?_
  refine at_seq ?_
  refine at_ops [0, 1, 2, 3, 4, 5, 6, 7, 8] rfl ?_
  refine at_seg [0, 1, 2, 3, 4, 5, 6] [7, 8] rfl [] [7, 9, 10, 12, 13] (L2 := [(7, .slice A83 p82.length c84), (9, .int .i64 (IntKind.i64.wrap (p86 - 1))), (10, .int .i64 p86), (12, .int .i64 (IntKind.i64.wrap (p86 + 1))), (13, .pointer (some ⟨g87, 0, none⟩))]) (obs := []) (by kernel_rfl) ?_ ?_
  · intro w hs; exact trivial
  refine at_eff rfl rfl ?_
  obtain ⟨b6, H89, H⟩ := bind_some H
  refine eff_call rfl rfl ok33 rfl rfl (show Meets Try.prog 33 ([.slice A83 p82.length c84, .int .i64 (IntKind.i64.wrap (p86 - 1)), .int .i64 p86, .int .i64 (IntKind.i64.wrap (p86 + 1)), .pointer (some ⟨g87, 0, none⟩)] : List Value).toArray _ [[(g87, .cells #[.int .i64 p88] 3 (0, 0))]] _ from slices_medianOrdered_string.calls H89 hr85) (Mr := (Fs)) (List.Perm.refl _) (fun v90 J91 M92 hq93 hJ94 => ?_)
  replace hle := hle.trans hJ94
  replace hr85 := hr85.mono hJ94
  obtain ⟨rfl, rfl⟩ := hq93
  refine at_seg [8] [] rfl [] [6] (L2 := [(6, .int .i64 b6.1)]) (obs := []) (by kernel_rfl) ?_ ?_
  · intro w hs; exact trivial
  refine at_end ?_
  refine at_thn ?_
  refine at_ret ?_
  obtain rfl := Option.some.inj H
  refine at_done (vs := [.int .i64 b6.1]) (obs := []) (.inl rfl) [.tmp 6] [] rfl (by kernel_rfl) (fun w hs => trivial) (fun w hs => ⟨_, _, [[(g87, .cells #[.int .i64 b6.2] 3 (0, 0))]], rfl, ⟨rfl, rfl⟩, hle, hs⟩)

/-! ### slices.choosePivotOrdered[string]: function 21 -/
def slices_choosePivotOrdered_string_j0 : Nat → Int → Int → Option (Int × Int)
  | 0, _, _ => none
  | k + 1, x181, x182 => if x182 = 0 then (some (x181, 1)) else (if x182 = 12 then (some (x181, 2)) else (some (x181, 0)))
def slices_choosePivotOrdered_string (k : Nat) (p73 : List (List UInt8)) (p77 : Int) (p78 : Int) : Option (Int × Int) := if (IntKind.i64.wrap (p78 - p77)) ≥ 8 then (if (IntKind.i64.wrap (p78 - p77)) ≥ 50 then ((slices_medianAdjacentOrdered_string p73 (IntKind.i64.wrap (p77 + (IntKind.i64.wrap ((IntKind.i64.wrap ((IntKind.i64.wrap (p78 - p77)).tdiv 4)) * 1)))) 0).bind fun b6 => ((slices_medianAdjacentOrdered_string p73 (IntKind.i64.wrap (p77 + (IntKind.i64.wrap ((IntKind.i64.wrap ((IntKind.i64.wrap (p78 - p77)).tdiv 4)) * 2)))) b6.2).bind fun b7 => ((slices_medianAdjacentOrdered_string p73 (IntKind.i64.wrap (p77 + (IntKind.i64.wrap ((IntKind.i64.wrap ((IntKind.i64.wrap (p78 - p77)).tdiv 4)) * 3)))) b7.2).bind fun b8 => ((slices_medianOrdered_string p73 b6.1 b7.1 b8.1 b8.2).bind fun b9 => (slices_choosePivotOrdered_string_j0 k b9.1 b9.2))))) else ((slices_medianOrdered_string p73 (IntKind.i64.wrap (p77 + (IntKind.i64.wrap ((IntKind.i64.wrap ((IntKind.i64.wrap (p78 - p77)).tdiv 4)) * 1)))) (IntKind.i64.wrap (p77 + (IntKind.i64.wrap ((IntKind.i64.wrap ((IntKind.i64.wrap (p78 - p77)).tdiv 4)) * 2)))) (IntKind.i64.wrap (p77 + (IntKind.i64.wrap ((IntKind.i64.wrap ((IntKind.i64.wrap (p78 - p77)).tdiv 4)) * 3)))) 0).bind fun b10 => (slices_choosePivotOrdered_string_j0 k b10.1 b10.2))) else (slices_choosePivotOrdered_string_j0 k (IntKind.i64.wrap (p77 + (IntKind.i64.wrap ((IntKind.i64.wrap ((IntKind.i64.wrap (p78 - p77)).tdiv 4)) * 2)))) 0)
set_option maxHeartbeats 4000000 in
set_option maxRecDepth 100000 in
theorem slices_choosePivotOrdered_string.calls {k : Nat} {p73 : List (List UInt8)} {p77 : Int} {p78 : Int} {r : Int × Int} {I0 : Imm} {A74 : Option Addr} {c75 : Nat} (H : slices_choosePivotOrdered_string k p73 p77 p78 = some r) (hr76 : Rd Kd.string I0 A74 c75 p73) :
    Meets Try.prog 21 ([.slice A74 p73.length c75, .int .i64 p77, .int .i64 p78] : List Value).toArray I0 [] (fun v J M => v = .tuple #[.int .i64 r.1, .int .i64 r.2] ∧ M = []) := by
  have hle := ImmLe.refl I0
  unfold slices_choosePivotOrdered_string at H
  refine fn_intro (fn := Try.f21) 57 Try.func21 rfl rfl rfl (fun E Fs => ?_)
  refine at_seq ?_
  refine at_reg [] [0, 1, 2] (L2 := [(0, .slice A74 p73.length c75), (1, .int .i64 p77), (2, .int .i64 p78)]) (obs := []) (by kernel_rfl) ?_ ?_
  · intro w hs; exact trivial
  refine at_thn ?_
  refine at_seq ?_
  refine at_reg [] [0, 1, 8] (L2 := [(0, .slice A74 p73.length c75), (1, .int .i64 p77), (8, .int .i64 (IntKind.i64.wrap (p78 - p77)))]) (obs := []) (by kernel_rfl) ?_ ?_
  · intro w hs; exact trivial
  refine at_thn ?_
  refine at_seq ?_
  refine at_ops [0] rfl ?_
  refine at_eff rfl rfl ?_
  obtain ⟨i_, hi_, hz_, _, _⟩ := info3
  refine eff_alloc rfl rfl hi_ hz_ #[.int .i64 0] rfl (fun g79 => ?_)
  refine at_end ?_
  refine at_thn ?_
  refine at_seq ?_
  refine at_reg [] [0, 1, 8, 9, 10] (L2 := [(0, .slice A74 p73.length c75), (1, .int .i64 p77), (8, .int .i64 (IntKind.i64.wrap (p78 - p77))), (9, .pointer (some ⟨g79, 0, none⟩)), (10, .int .i64 (IntKind.i64.wrap (p77 + (IntKind.i64.wrap ((IntKind.i64.wrap ((IntKind.i64.wrap (p78 - p77)).tdiv 4)) * 1)))))]) (obs := [fun _ => ¬ (4 : Int) = 0]) (by kernel_rfl) ?_ ?_
  · intro w hs; exact (by decide : ¬ (4 : Int) = 0)
  refine at_thn ?_
  refine at_seq ?_
  refine at_reg [] [0, 1, 8, 9, 10, 11] (L2 := [(0, .slice A74 p73.length c75), (1, .int .i64 p77), (8, .int .i64 (IntKind.i64.wrap (p78 - p77))), (9, .pointer (some ⟨g79, 0, none⟩)), (10, .int .i64 (IntKind.i64.wrap (p77 + (IntKind.i64.wrap ((IntKind.i64.wrap ((IntKind.i64.wrap (p78 - p77)).tdiv 4)) * 1))))), (11, .int .i64 (IntKind.i64.wrap (p77 + (IntKind.i64.wrap ((IntKind.i64.wrap ((IntKind.i64.wrap (p78 - p77)).tdiv 4)) * 2)))))]) (obs := [fun _ => ¬ (4 : Int) = 0]) (by kernel_rfl) ?_ ?_
  · intro w hs; exact (by decide : ¬ (4 : Int) = 0)
  refine at_thn ?_
  refine at_seq ?_
  refine at_reg [] [0, 8, 9, 10, 11, 12] (L2 := [(0, .slice A74 p73.length c75), (8, .int .i64 (IntKind.i64.wrap (p78 - p77))), (9, .pointer (some ⟨g79, 0, none⟩)), (10, .int .i64 (IntKind.i64.wrap (p77 + (IntKind.i64.wrap ((IntKind.i64.wrap ((IntKind.i64.wrap (p78 - p77)).tdiv 4)) * 1))))), (11, .int .i64 (IntKind.i64.wrap (p77 + (IntKind.i64.wrap ((IntKind.i64.wrap ((IntKind.i64.wrap (p78 - p77)).tdiv 4)) * 2))))), (12, .int .i64 (IntKind.i64.wrap (p77 + (IntKind.i64.wrap ((IntKind.i64.wrap ((IntKind.i64.wrap (p78 - p77)).tdiv 4)) * 3)))))]) (obs := [fun _ => ¬ (4 : Int) = 0]) (by kernel_rfl) ?_ ?_
  · intro w hs; exact (by decide : ¬ (4 : Int) = 0)
  refine at_thn ?_
  refine at_join (fun L I Ms => ∃ (k183 : Nat), ∃ (x181 : Int) (x182 : Int), L = [(9, .pointer (some ⟨g79, 0, none⟩)), (11, .int .i64 x181)] ∧ Ms = ([(g79, .cells #[.int .i64 x182] 3 (0, 0))] :: Fs) ∧ slices_choosePivotOrdered_string_j0 k183 x181 x182 = some r ∧ ImmLe I0 I ∧ k183 ≤ k) ?_ ?_
  · clear H hle hr76
    intro L I Ms h_; obtain ⟨k183, x181, x182, hL_, hM_, H, hle, hk184⟩ := h_; rw [hL_, hM_]; clear hL_ hM_ L Ms
    rcases k183 with _ | k183
    · exact (no_none H).elim
    rw [slices_choosePivotOrdered_string_j0] at H
    refine at_seq ?_
    refine at_reg [(0, .int .i64 x182)] [11, 49] (L2 := [(11, .int .i64 x181), (49, .int .i64 x182)]) (obs := [fun w => w.cell? ⟨g79, 0, none⟩ = some (.int .i64 x182)]) (by kernel_rfl) ?_ ?_
    · intro w hs; exact hs.var (k := 0) rfl 0 rfl
    refine at_thn ?_
    refine at_block ?_
    refine at_seq ?_
    refine at_reg [] [11, 49, 51] (L2 := [(11, .int .i64 x181), (49, .int .i64 x182), (51, .bool (x182 == 0))]) (obs := []) (by kernel_rfl) ?_ ?_
    · intro w hs; exact trivial
    refine at_thn ?_
    by_cases h185 : x182 = 0
    · rw [if_pos h185] at H
      refine at_cond_t rfl (beq_iff_eq.2 h185) ?_
      refine at_seq ?_
      refine at_reg [] [6, 7] (L2 := [(6, .int .i64 x181), (7, .int .i64 1)]) (obs := []) (by kernel_rfl) ?_ ?_
      · intro w hs; exact trivial
      refine at_thn ?_
      refine at_ret ?_
      refine at_in_ret ?_
      obtain rfl := Option.some.inj H
      refine at_drop (k := 0) rfl rfl ?_
      refine at_done (vs := [.int .i64 x181, .int .i64 1]) (obs := []) (.inl rfl) [.tmp 6, .tmp 7] [] rfl (by kernel_rfl) (fun w hs => trivial) (fun w hs => ⟨_, _, [], rfl, ⟨rfl, rfl⟩, hle, hs⟩)
    · rw [if_neg h185] at H
      refine at_cond_f rfl (beq_eq_false_iff_ne.2 h185) ?_
      refine at_seq ?_
      refine at_reg [] [11, 54] (L2 := [(11, .int .i64 x181), (54, .bool (x182 == 12))]) (obs := []) (by kernel_rfl) ?_ ?_
      · intro w hs; exact trivial
      refine at_thn ?_
      by_cases h186 : x182 = 12
      · rw [if_pos h186] at H
        refine at_cond_t rfl (beq_iff_eq.2 h186) ?_
        refine at_seq ?_
        refine at_reg [] [6, 7] (L2 := [(6, .int .i64 x181), (7, .int .i64 2)]) (obs := []) (by kernel_rfl) ?_ ?_
        · intro w hs; exact trivial
        refine at_thn ?_
        refine at_ret ?_
        refine at_in_ret ?_
        obtain rfl := Option.some.inj H
        refine at_drop (k := 0) rfl rfl ?_
        refine at_done (vs := [.int .i64 x181, .int .i64 2]) (obs := []) (.inl rfl) [.tmp 6, .tmp 7] [] rfl (by kernel_rfl) (fun w hs => trivial) (fun w hs => ⟨_, _, [], rfl, ⟨rfl, rfl⟩, hle, hs⟩)
      · rw [if_neg h186] at H
        refine at_cond_f rfl (beq_eq_false_iff_ne.2 h186) ?_
        refine at_seq ?_
        refine at_reg [] [6, 7] (L2 := [(6, .int .i64 x181), (7, .int .i64 0)]) (obs := []) (by kernel_rfl) ?_ ?_
        · intro w hs; exact trivial
        refine at_thn ?_
        refine at_ret ?_
        refine at_in_ret ?_
        obtain rfl := Option.some.inj H
        refine at_drop (k := 0) rfl rfl ?_
        refine at_done (vs := [.int .i64 x181, .int .i64 0]) (obs := []) (.inl rfl) [.tmp 6, .tmp 7] [] rfl (by kernel_rfl) (fun w hs => trivial) (fun w hs => ⟨_, _, [], rfl, ⟨rfl, rfl⟩, hle, hs⟩)
  · intro Jn80
    refine at_seq ?_
    refine at_reg [] [0, 8, 9, 10, 11, 12, 32] (L2 := [(0, .slice A74 p73.length c75), (8, .int .i64 (IntKind.i64.wrap (p78 - p77))), (9, .pointer (some ⟨g79, 0, none⟩)), (10, .int .i64 (IntKind.i64.wrap (p77 + (IntKind.i64.wrap ((IntKind.i64.wrap ((IntKind.i64.wrap (p78 - p77)).tdiv 4)) * 1))))), (11, .int .i64 (IntKind.i64.wrap (p77 + (IntKind.i64.wrap ((IntKind.i64.wrap ((IntKind.i64.wrap (p78 - p77)).tdiv 4)) * 2))))), (12, .int .i64 (IntKind.i64.wrap (p77 + (IntKind.i64.wrap ((IntKind.i64.wrap ((IntKind.i64.wrap (p78 - p77)).tdiv 4)) * 3))))), (32, .bool (decide ((IntKind.i64.wrap (p78 - p77)) ≥ 8)))]) (obs := []) (by kernel_rfl) ?_ ?_
    · intro w hs; exact trivial
    refine at_thn ?_
    by_cases h187 : (IntKind.i64.wrap (p78 - p77)) ≥ 8
    · rw [if_pos h187] at H
      refine at_cond_t rfl (decide_eq_true h187) ?_
      refine at_seq ?_
      refine at_seq ?_
      refine at_reg [] [0, 9, 10, 11, 12, 34] (L2 := [(0, .slice A74 p73.length c75), (9, .pointer (some ⟨g79, 0, none⟩)), (10, .int .i64 (IntKind.i64.wrap (p77 + (IntKind.i64.wrap ((IntKind.i64.wrap ((IntKind.i64.wrap (p78 - p77)).tdiv 4)) * 1))))), (11, .int .i64 (IntKind.i64.wrap (p77 + (IntKind.i64.wrap ((IntKind.i64.wrap ((IntKind.i64.wrap (p78 - p77)).tdiv 4)) * 2))))), (12, .int .i64 (IntKind.i64.wrap (p77 + (IntKind.i64.wrap ((IntKind.i64.wrap ((IntKind.i64.wrap (p78 - p77)).tdiv 4)) * 3))))), (34, .bool (decide ((IntKind.i64.wrap (p78 - p77)) ≥ 50)))]) (obs := []) (by kernel_rfl) ?_ ?_
      · intro w hs; exact trivial
      refine at_thn ?_
      by_cases h188 : (IntKind.i64.wrap (p78 - p77)) ≥ 50
      · rw [if_pos h188] at H
        refine at_cond_t rfl (decide_eq_true h188) ?_
        refine at_seq ?_
        refine at_ops [0, 1, 2, 3] rfl ?_
        refine at_seg [0, 1] [2, 3] rfl [] [0, 9, 10, 11, 12, 35, 36] (L2 := [(0, .slice A74 p73.length c75), (9, .pointer (some ⟨g79, 0, none⟩)), (10, .int .i64 (IntKind.i64.wrap (p77 + (IntKind.i64.wrap ((IntKind.i64.wrap ((IntKind.i64.wrap (p78 - p77)).tdiv 4)) * 1))))), (11, .int .i64 (IntKind.i64.wrap (p77 + (IntKind.i64.wrap ((IntKind.i64.wrap ((IntKind.i64.wrap (p78 - p77)).tdiv 4)) * 2))))), (12, .int .i64 (IntKind.i64.wrap (p77 + (IntKind.i64.wrap ((IntKind.i64.wrap ((IntKind.i64.wrap (p78 - p77)).tdiv 4)) * 3))))), (35, .slice A74 p73.length c75), (36, .int .i64 (IntKind.i64.wrap (p77 + (IntKind.i64.wrap ((IntKind.i64.wrap ((IntKind.i64.wrap (p78 - p77)).tdiv 4)) * 1)))))]) (obs := []) (by kernel_rfl) ?_ ?_
        · intro w hs; exact trivial
        refine at_eff rfl rfl ?_
        obtain ⟨b6, H189, H⟩ := bind_some H
        refine eff_call rfl rfl ok32 rfl rfl (show Meets Try.prog 32 ([.slice A74 p73.length c75, .int .i64 (IntKind.i64.wrap (p77 + (IntKind.i64.wrap ((IntKind.i64.wrap ((IntKind.i64.wrap (p78 - p77)).tdiv 4)) * 1)))), .pointer (some ⟨g79, 0, none⟩)] : List Value).toArray _ [[(g79, .cells #[.int .i64 0] 3 (0, 0))]] _ from slices_medianAdjacentOrdered_string.calls H189 hr76) (Mr := (Fs)) (List.Perm.refl _) (fun v190 J191 M192 hq193 hJ194 => ?_)
        replace hle := hle.trans hJ194
        replace hr76 := hr76.mono hJ194
        obtain ⟨rfl, rfl⟩ := hq193
        refine at_seg [3] [] rfl [] [0, 9, 10, 11, 12] (L2 := [(0, .slice A74 p73.length c75), (9, .pointer (some ⟨g79, 0, none⟩)), (10, .int .i64 b6.1), (11, .int .i64 (IntKind.i64.wrap (p77 + (IntKind.i64.wrap ((IntKind.i64.wrap ((IntKind.i64.wrap (p78 - p77)).tdiv 4)) * 2))))), (12, .int .i64 (IntKind.i64.wrap (p77 + (IntKind.i64.wrap ((IntKind.i64.wrap ((IntKind.i64.wrap (p78 - p77)).tdiv 4)) * 3)))))]) (obs := []) (by kernel_rfl) ?_ ?_
        · intro w hs; exact trivial
        refine at_end ?_
        refine at_thn ?_
        refine at_seq ?_
        refine at_ops [0, 1, 2, 3] rfl ?_
        refine at_seg [0, 1] [2, 3] rfl [] [0, 9, 10, 11, 12, 38, 39] (L2 := [(0, .slice A74 p73.length c75), (9, .pointer (some ⟨g79, 0, none⟩)), (10, .int .i64 b6.1), (11, .int .i64 (IntKind.i64.wrap (p77 + (IntKind.i64.wrap ((IntKind.i64.wrap ((IntKind.i64.wrap (p78 - p77)).tdiv 4)) * 2))))), (12, .int .i64 (IntKind.i64.wrap (p77 + (IntKind.i64.wrap ((IntKind.i64.wrap ((IntKind.i64.wrap (p78 - p77)).tdiv 4)) * 3))))), (38, .slice A74 p73.length c75), (39, .int .i64 (IntKind.i64.wrap (p77 + (IntKind.i64.wrap ((IntKind.i64.wrap ((IntKind.i64.wrap (p78 - p77)).tdiv 4)) * 2)))))]) (obs := []) (by kernel_rfl) ?_ ?_
        · intro w hs; exact trivial
        refine at_eff rfl rfl ?_
        obtain ⟨b7, H195, H⟩ := bind_some H
        refine eff_call rfl rfl ok32 rfl rfl (show Meets Try.prog 32 ([.slice A74 p73.length c75, .int .i64 (IntKind.i64.wrap (p77 + (IntKind.i64.wrap ((IntKind.i64.wrap ((IntKind.i64.wrap (p78 - p77)).tdiv 4)) * 2)))), .pointer (some ⟨g79, 0, none⟩)] : List Value).toArray _ [[(g79, .cells #[.int .i64 b6.2] 3 (0, 0))]] _ from slices_medianAdjacentOrdered_string.calls H195 hr76) (Mr := (Fs)) (List.Perm.refl _) (fun v196 J197 M198 hq199 hJ200 => ?_)
        replace hle := hle.trans hJ200
        replace hr76 := hr76.mono hJ200
        obtain ⟨rfl, rfl⟩ := hq199
        refine at_seg [3] [] rfl [] [0, 9, 10, 11, 12] (L2 := [(0, .slice A74 p73.length c75), (9, .pointer (some ⟨g79, 0, none⟩)), (10, .int .i64 b6.1), (11, .int .i64 b7.1), (12, .int .i64 (IntKind.i64.wrap (p77 + (IntKind.i64.wrap ((IntKind.i64.wrap ((IntKind.i64.wrap (p78 - p77)).tdiv 4)) * 3)))))]) (obs := []) (by kernel_rfl) ?_ ?_
        · intro w hs; exact trivial
        refine at_end ?_
        refine at_thn ?_
        refine at_ops [0, 1, 2, 3] rfl ?_
        refine at_seg [0, 1] [2, 3] rfl [] [0, 9, 10, 11, 12, 41, 42] (L2 := [(0, .slice A74 p73.length c75), (9, .pointer (some ⟨g79, 0, none⟩)), (10, .int .i64 b6.1), (11, .int .i64 b7.1), (12, .int .i64 (IntKind.i64.wrap (p77 + (IntKind.i64.wrap ((IntKind.i64.wrap ((IntKind.i64.wrap (p78 - p77)).tdiv 4)) * 3))))), (41, .slice A74 p73.length c75), (42, .int .i64 (IntKind.i64.wrap (p77 + (IntKind.i64.wrap ((IntKind.i64.wrap ((IntKind.i64.wrap (p78 - p77)).tdiv 4)) * 3)))))]) (obs := []) (by kernel_rfl) ?_ ?_
        · intro w hs; exact trivial
        refine at_eff rfl rfl ?_
        obtain ⟨b8, H201, H⟩ := bind_some H
        refine eff_call rfl rfl ok32 rfl rfl (show Meets Try.prog 32 ([.slice A74 p73.length c75, .int .i64 (IntKind.i64.wrap (p77 + (IntKind.i64.wrap ((IntKind.i64.wrap ((IntKind.i64.wrap (p78 - p77)).tdiv 4)) * 3)))), .pointer (some ⟨g79, 0, none⟩)] : List Value).toArray _ [[(g79, .cells #[.int .i64 b7.2] 3 (0, 0))]] _ from slices_medianAdjacentOrdered_string.calls H201 hr76) (Mr := (Fs)) (List.Perm.refl _) (fun v202 J203 M204 hq205 hJ206 => ?_)
        replace hle := hle.trans hJ206
        replace hr76 := hr76.mono hJ206
        obtain ⟨rfl, rfl⟩ := hq205
        refine at_seg [3] [] rfl [] [0, 9, 10, 11, 12] (L2 := [(0, .slice A74 p73.length c75), (9, .pointer (some ⟨g79, 0, none⟩)), (10, .int .i64 b6.1), (11, .int .i64 b7.1), (12, .int .i64 b8.1)]) (obs := []) (by kernel_rfl) ?_ ?_
        · intro w hs; exact trivial
        refine at_end ?_
        refine at_thn ?_
        refine at_ops [0, 1, 2, 3, 4, 5] rfl ?_
        refine at_seg [0, 1, 2, 3] [4, 5] rfl [] [9, 11, 44, 45, 46, 47] (L2 := [(9, .pointer (some ⟨g79, 0, none⟩)), (11, .int .i64 b7.1), (44, .slice A74 p73.length c75), (45, .int .i64 b6.1), (46, .int .i64 b7.1), (47, .int .i64 b8.1)]) (obs := []) (by kernel_rfl) ?_ ?_
        · intro w hs; exact trivial
        refine at_eff rfl rfl ?_
        obtain ⟨b9, H207, H⟩ := bind_some H
        refine eff_call rfl rfl ok33 rfl rfl (show Meets Try.prog 33 ([.slice A74 p73.length c75, .int .i64 b6.1, .int .i64 b7.1, .int .i64 b8.1, .pointer (some ⟨g79, 0, none⟩)] : List Value).toArray _ [[(g79, .cells #[.int .i64 b8.2] 3 (0, 0))]] _ from slices_medianOrdered_string.calls H207 hr76) (Mr := (Fs)) (List.Perm.refl _) (fun v208 J209 M210 hq211 hJ212 => ?_)
        replace hle := hle.trans hJ212
        replace hr76 := hr76.mono hJ212
        obtain ⟨rfl, rfl⟩ := hq211
        refine at_seg [5] [] rfl [] [9, 11] (L2 := [(9, .pointer (some ⟨g79, 0, none⟩)), (11, .int .i64 b9.1)]) (obs := []) (by kernel_rfl) ?_ ?_
        · intro w hs; exact trivial
        refine at_end ?_
        refine at_thn ?_
        refine at_keep [9, 11] (L2 := [(9, .pointer (some ⟨g79, 0, none⟩)), (11, .int .i64 b9.1)]) rfl ?_
        exact Jn80 _ _ _ ⟨_, b9.1, b9.2, rfl, rfl, H, hle, by omega⟩
      · rw [if_neg h188] at H
        refine at_cond_f rfl (decide_eq_false h188) ?_
        refine at_skip ?_
        refine at_thn ?_
        refine at_ops [0, 1, 2, 3, 4, 5] rfl ?_
        refine at_seg [0, 1, 2, 3] [4, 5] rfl [] [9, 11, 44, 45, 46, 47] (L2 := [(9, .pointer (some ⟨g79, 0, none⟩)), (11, .int .i64 (IntKind.i64.wrap (p77 + (IntKind.i64.wrap ((IntKind.i64.wrap ((IntKind.i64.wrap (p78 - p77)).tdiv 4)) * 2))))), (44, .slice A74 p73.length c75), (45, .int .i64 (IntKind.i64.wrap (p77 + (IntKind.i64.wrap ((IntKind.i64.wrap ((IntKind.i64.wrap (p78 - p77)).tdiv 4)) * 1))))), (46, .int .i64 (IntKind.i64.wrap (p77 + (IntKind.i64.wrap ((IntKind.i64.wrap ((IntKind.i64.wrap (p78 - p77)).tdiv 4)) * 2))))), (47, .int .i64 (IntKind.i64.wrap (p77 + (IntKind.i64.wrap ((IntKind.i64.wrap ((IntKind.i64.wrap (p78 - p77)).tdiv 4)) * 3)))))]) (obs := []) (by kernel_rfl) ?_ ?_
        · intro w hs; exact trivial
        refine at_eff rfl rfl ?_
        obtain ⟨b10, H213, H⟩ := bind_some H
        refine eff_call rfl rfl ok33 rfl rfl (show Meets Try.prog 33 ([.slice A74 p73.length c75, .int .i64 (IntKind.i64.wrap (p77 + (IntKind.i64.wrap ((IntKind.i64.wrap ((IntKind.i64.wrap (p78 - p77)).tdiv 4)) * 1)))), .int .i64 (IntKind.i64.wrap (p77 + (IntKind.i64.wrap ((IntKind.i64.wrap ((IntKind.i64.wrap (p78 - p77)).tdiv 4)) * 2)))), .int .i64 (IntKind.i64.wrap (p77 + (IntKind.i64.wrap ((IntKind.i64.wrap ((IntKind.i64.wrap (p78 - p77)).tdiv 4)) * 3)))), .pointer (some ⟨g79, 0, none⟩)] : List Value).toArray _ [[(g79, .cells #[.int .i64 0] 3 (0, 0))]] _ from slices_medianOrdered_string.calls H213 hr76) (Mr := (Fs)) (List.Perm.refl _) (fun v214 J215 M216 hq217 hJ218 => ?_)
        replace hle := hle.trans hJ218
        replace hr76 := hr76.mono hJ218
        obtain ⟨rfl, rfl⟩ := hq217
        refine at_seg [5] [] rfl [] [9, 11] (L2 := [(9, .pointer (some ⟨g79, 0, none⟩)), (11, .int .i64 b10.1)]) (obs := []) (by kernel_rfl) ?_ ?_
        · intro w hs; exact trivial
        refine at_end ?_
        refine at_thn ?_
        refine at_keep [9, 11] (L2 := [(9, .pointer (some ⟨g79, 0, none⟩)), (11, .int .i64 b10.1)]) rfl ?_
        exact Jn80 _ _ _ ⟨_, b10.1, b10.2, rfl, rfl, H, hle, by omega⟩
    · rw [if_neg h187] at H
      refine at_cond_f rfl (decide_eq_false h187) ?_
      refine at_skip ?_
      refine at_thn ?_
      refine at_keep [9, 11] (L2 := [(9, .pointer (some ⟨g79, 0, none⟩)), (11, .int .i64 (IntKind.i64.wrap (p77 + (IntKind.i64.wrap ((IntKind.i64.wrap ((IntKind.i64.wrap (p78 - p77)).tdiv 4)) * 2)))))]) rfl ?_
      exact Jn80 _ _ _ ⟨_, IntKind.i64.wrap (p77 + (IntKind.i64.wrap ((IntKind.i64.wrap ((IntKind.i64.wrap (p78 - p77)).tdiv 4)) * 2))), 0, rfl, rfl, H, hle, by omega⟩
end Go.Proofs.Ytgdbigafcjaohaa
