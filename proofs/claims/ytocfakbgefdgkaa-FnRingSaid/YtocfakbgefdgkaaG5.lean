import Derived.Test.YtocfakbgefdgkaaG4
namespace Go.Proofs.Ytocfakbgefdgkaa
open Go Eng
set_option linter.unusedVariables false
set_option linter.unusedSimpArgs false
/-! ### loop.example/g00146/laws.toInt64SS: function 45 -/
def laws_toInt64SS_l0 : Nat → (List (List Int)) → Int → (List (List Int)) → Option (List (List Int))
  | 0, _, _, _ => none
  | k + 1, x34, x39, p25 => if x39 < (p25.length : Int) then (if 0 ≤ x39 then ((laws_toInt64S k (rdA [] p25 x39)).bind fun b2 => (if x39 < (x34.length : Int) then (laws_toInt64SS_l0 k (x34.set x39.toNat b2) (IntKind.i64.wrap (x39 + 1)) p25) else none)) else none) else (some x34)
def laws_toInt64SS (k : Nat) (p25 : List (List Int)) : Option (List (List Int)) := if 0 ≤ (p25.length : Int) then (if (p25.length : Int) ≤ 11728124029610 then (laws_toInt64SS_l0 k (List.replicate (p25.length : Int).toNat [] : List (List Int)) 0 p25) else none) else none
set_option maxHeartbeats 4000000 in
set_option maxRecDepth 100000 in
theorem laws_toInt64SS.calls {k : Nat} {p25 : List (List Int)} {r : (List (List Int))} {I0 : Imm} {A26 : Option Addr} {c27 : Nat} (H : laws_toInt64SS k p25 = some r) (hr28 : Rd (Kd.slice (Kd.int .i64)) I0 A26 c27 p25) :
    Meets Try.prog 45 ([.slice A26 p25.length c27] : List Value).toArray I0 [] (fun v J M => ∃ (A_1 : Option Addr) (c_2 : Nat) (s_3 : Seg), v = .slice A_1 r.length c_2 ∧ M = [s_3] ∧ Own (Kd.slice (Kd.int .i64)) 23 J A_1 c_2 r s_3) := by
  have hle := ImmLe.refl I0
  unfold laws_toInt64SS at H
  refine fn_intro (fn := Try.f45) 23 Try.func45 rfl rfl rfl (fun E Fs => ?_)
  refine at_seq ?_
  refine at_reg [] [0] (L2 := [(0, .slice A26 p25.length c27)]) (obs := []) (by kernel_rfl) ?_ ?_
  · intro w hs; exact trivial
  refine at_thn ?_
  refine at_seq ?_
  refine at_ops [0, 1, 2, 3] rfl ?_
  refine at_seg [0, 1] [2, 3] rfl [] [0, 6] (L2 := [(0, .slice A26 p25.length c27), (6, .int .i64 (p25.length : Int))]) (obs := []) (by kernel_rfl) ?_ ?_
  · intro w hs; exact trivial
  refine at_eff rfl rfl ?_
  obtain ⟨h29, H⟩ := ite_some H
  obtain ⟨h30, H⟩ := ite_some H
  obtain ⟨i_, hi_, hz_, hs_, hb_⟩ := info23
  refine eff_makeSlice (K := (Kd.slice (Kd.int .i64))) (d := []) rfl rfl rfl rfl und34 hi_ hz_ hs_ (fun _ => ⟨none, 0, rfl, Rd.nil _ _⟩) h29 (by rw [hb_]; omega) (by omega) (fun g31 s32 ho33 => ?_)
  refine at_seg [3] [] rfl [] [0, 3] (L2 := [(0, .slice A26 p25.length c27), (3, .slice (some ⟨g31, 0, none⟩ : Option Addr) (List.replicate (p25.length : Int).toNat [] : List (List Int)).length ((p25.length : Int).toNat))]) (obs := []) (by kernel_rfl) ?_ ?_
  · intro w hs; exact trivial
  refine at_end ?_
  refine at_thn ?_
  refine at_seq ?_
  refine at_seq ?_
  refine at_reg [] [0, 3, 4] (L2 := [(0, .slice A26 p25.length c27), (3, .slice (some ⟨g31, 0, none⟩ : Option Addr) (List.replicate (p25.length : Int).toNat [] : List (List Int)).length ((p25.length : Int).toNat)), (4, .int .i64 0)]) (obs := []) (by kernel_rfl) ?_ ?_
  · intro w hs; exact trivial
  refine at_thn ?_
  refine at_block ?_
  refine at_keep [0, 3, 4] (L2 := [(0, .slice A26 p25.length c27), (3, .slice (some ⟨g31, 0, none⟩ : Option Addr) (List.replicate (p25.length : Int).toNat [] : List (List Int)).length ((p25.length : Int).toNat)), (4, .int .i64 0)]) rfl ?_
  refine at_loop (fun k40 L I Ms => ∃ (x34 : List (List Int)) (A35 : Option Addr) (c36 : Nat) (s37 : Seg) (x39 : Int), L = [(0, .slice A26 p25.length c27), (3, .slice A35 x34.length c36), (4, .int .i64 x39)] ∧ Ms = (s37 :: Fs) ∧ laws_toInt64SS_l0 k40 x34 x39 p25 = some r ∧ ImmLe I0 I ∧ k40 ≤ k ∧ Own (Kd.slice (Kd.int .i64)) 23 I A35 c36 x34 s37 ∧ Rd (Kd.slice (Kd.int .i64)) I A26 c27 p25) ?_ ?_ k ⟨(List.replicate (p25.length : Int).toNat [] : List (List Int)), (some ⟨g31, 0, none⟩ : Option Addr), (p25.length : Int).toNat, s32, 0, rfl, rfl, H, hle, Nat.le_refl _, ho33, hr28⟩
  · rintro L I Ms ⟨_, _, _, _, _, rfl, rfl, H, _⟩; exact no_none H
  · clear H hle ho33 hr28
    intro k40 ih41 L I Ms h_; obtain ⟨x34, A35, c36, s37, x39, hL_, hM_, H, hle, hk42, ho38, hr28⟩ := h_; rw [hL_, hM_]; clear hL_ hM_ L Ms
    rw [laws_toInt64SS_l0] at H
    refine at_seq ?_
    refine at_seq ?_
    refine at_reg [] [0, 3, 4, 11] (L2 := [(0, .slice A26 p25.length c27), (3, .slice A35 x34.length c36), (4, .int .i64 x39), (11, .bool (decide (x39 < (p25.length : Int))))]) (obs := []) (by kernel_rfl) ?_ ?_
    · intro w hs; exact trivial
    refine at_thn ?_
    by_cases h43 : x39 < (p25.length : Int)
    · rw [if_pos h43] at H
      refine at_cond_t rfl (decide_eq_true h43) ?_
      refine at_skip ?_
      refine at_thn ?_
      refine at_seq ?_
      refine at_block ?_
      refine at_ops [0, 1, 2, 3, 4, 5, 6, 7, 8] rfl ?_
      obtain ⟨h44, H⟩ := ite_some H
      obtain ⟨cs49, hz50, hc45⟩ := hr28.elem [] x39 h44 h43
      obtain ⟨A46, c47, rfl, hr48⟩ := hz50
      refine at_seg [0, 1, 2, 3, 4, 5] [6, 7, 8] rfl [(5, .slice A46 (rdA [] p25 x39).length c47)] [0, 3, 4, 14, 15, 19] (L2 := [(0, .slice A26 p25.length c27), (3, .slice A35 x34.length c36), (4, .int .i64 x39), (14, .slice A35 x34.length c36), (15, .int .i64 x39), (19, .slice A46 (rdA [] p25 x39).length c47)]) (obs := [fun _ => A26.isSome = true ∧ 0 ≤ x39 ∧ x39 < ((p25.length : Nat) : Int), fun w => w.cell? ((A26.getD ad0).add (x39.toNat * 1)) = some (.slice A46 (rdA [] p25 x39).length c47)]) (by kernel_rfl) ?_ ?_
      · intro w hs; exact ⟨⟨hr28.ne x39 h44 h43, h44, h43⟩, cell0 (hc45 0 _ rfl hs)⟩
      refine at_eff rfl rfl ?_
      obtain ⟨b2, H51, H⟩ := bind_some H
      have hm_ := laws_toInt64S.calls (I0 := I) H51 hr48
      refine eff_call rfl rfl ok15 rfl rfl (show Meets Try.prog 15 ([.slice A46 (rdA [] p25 x39).length c47] : List Value).toArray _ [] _ from hm_) (Mr := (s37 :: Fs)) (List.Perm.refl _) (fun v52 J53 M54 hq55 hJ56 => ?_)
      replace hle := hle.trans hJ56
      replace ho38 := ho38.mono hJ56
      replace hr28 := hr28.mono hJ56
      replace hr48 := hr48.mono hJ56
      obtain ⟨A57, c58, s59, rfl, rfl, ho60⟩ := hq55
      obtain ⟨h61, H⟩ := ite_some H
      refine at_seg [7] [8] rfl [] [0, 3, 4, 20, 21] (L2 := [(0, .slice A26 p25.length c27), (3, .slice A35 x34.length c36), (4, .int .i64 x39), (20, .slice A57 b2.length c58), (21, .pointer (some ((A35.getD ad0).add (x39.toNat * 1))))]) (obs := [fun _ => A35.isSome = true ∧ 0 ≤ x39 ∧ x39 < ((x34.length : Nat) : Int)]) (by kernel_rfl) ?_ ?_
      · intro w hs; exact ⟨ho38.ne x39 h44 h61, h44, h61⟩
      refine at_eff rfl rfl ?_
      refine at_freeze (k := 0) rfl rfl (fun J62 hJ63 hin64 => ?_)
      replace hle := hle.trans hJ63
      replace ho38 := ho38.mono hJ63
      replace ho60 := ho60.mono hJ63
      replace hr28 := hr28.mono hJ63
      have hr65 := ho60.rd (ImmLe.refl _) hin64
      refine eff_storeOwn (K := (Kd.slice (Kd.int .i64))) (u := b2) 0 0 [] x39 rfl rfl rfl rfl ho38 rfl h44 h61 (add0 _).symm rfl (Nat.le_of_ble_eq_true (by kernel_rfl)) rfl (by rintro cs_ ⟨_, _, rfl, _⟩; exact ⟨A57, c58, rfl, hr65⟩) (fun s66 ho67 => ?_)
      refine at_eqL2 (L1 := [(0, .slice A26 p25.length c27), (3, .slice A35 x34.length c36), (4, .int .i64 x39), (20, .slice A57 b2.length c58), (21, .pointer (some ((A35.getD ad0).add (x39.toNat * 1))))]) (L2 := [(0, .slice A26 p25.length c27), (3, .slice A35 (x34.set x39.toNat b2).length c36), (4, .int .i64 x39), (20, .slice A57 b2.length c58), (21, .pointer (some ((A35.getD ad0).add (x39.toNat * 1))))]) rfl (by simp only [List.length_set]) ?_
      refine at_end ?_
      refine at_in_norm ?_
      refine at_thn ?_
      refine at_reg [] [0, 3, 4] (L2 := [(0, .slice A26 p25.length c27), (3, .slice A35 (x34.set x39.toNat b2).length c36), (4, .int .i64 (IntKind.i64.wrap (x39 + 1)))]) (obs := []) (by kernel_rfl) ?_ ?_
      · intro w hs; exact trivial
      refine at_thn ?_
      refine at_keep [0, 3, 4] (L2 := [(0, .slice A26 p25.length c27), (3, .slice A35 (x34.set x39.toNat b2).length c36), (4, .int .i64 (IntKind.i64.wrap (x39 + 1)))]) rfl ?_
      exact ih41 _ (by omega) _ _ _ ⟨x34.set x39.toNat b2, A35, c36, s66, IntKind.i64.wrap (x39 + 1), rfl, rfl, H, hle, by omega, ho67, hr28⟩
    · rw [if_neg h43] at H
      refine at_cond_f rfl (decide_eq_false h43) ?_
      refine at_exit ?_
      refine at_then_exit ?_
      refine at_then_exit ?_
      refine at_in_hit ?_
      refine at_thn ?_
      refine at_seq ?_
      refine at_reg [] [2] (L2 := [(2, .slice A35 x34.length c36)]) (obs := []) (by kernel_rfl) ?_ ?_
      · intro w hs; exact trivial
      refine at_thn ?_
      refine at_ret ?_
      obtain rfl := Option.some.inj H
      refine at_done (vs := [.slice A35 x34.length c36]) (obs := []) (.inl rfl) [.tmp 2] [] rfl (by kernel_rfl) (fun w hs => trivial) (fun w hs => ⟨_, _, [s37], rfl, ⟨A35, c36, s37, rfl, rfl, ho38⟩, hle, hs⟩)

/-! ### loop.example/g00146/laws.toRing: function 14 -/
def laws_toRing (k : Nat) (p18 : T_laws_Ring) : Option T_impl_Ring := (laws_toInt64SS k p18.Items).bind fun b2 => (some (⟨b2, p18.At⟩ : T_impl_Ring))
set_option maxHeartbeats 4000000 in
set_option maxRecDepth 100000 in
theorem laws_toRing.calls {k : Nat} {p18 : T_laws_Ring} {r : T_impl_Ring} {I0 : Imm} {A19 : Option Addr} {c20 : Nat} (H : laws_toRing k p18 = some r) (hr21 : Rd (Kd.slice (Kd.int .i64)) I0 A19 c20 p18.Items) :
    Meets Try.prog 14 ([.agg #[.slice A19 p18.Items.length c20, .int .i64 p18.At]] : List Value).toArray I0 [] (fun v J M => ∃ (A_1 : Option Addr) (c_2 : Nat) (s_3 : Seg), v = .agg #[.slice A_1 r.Items.length c_2, .int .i64 r.At] ∧ M = [s_3] ∧ Own (Kd.slice (Kd.int .i64)) 23 J A_1 c_2 r.Items s_3) := by
  have hle := ImmLe.refl I0
  unfold laws_toRing at H
  refine fn_intro (fn := Try.f14) 12 Try.func14 rfl rfl rfl (fun E Fs => ?_)
  refine at_seq ?_
  refine at_ops [0, 1] rfl ?_
  refine at_eff rfl rfl ?_
  refine eff_box rfl rfl rfl #[.slice A19 p18.Items.length c20, .int .i64 p18.At] rfl (fun g22 => ?_)
  refine at_eff rfl rfl ?_
  obtain ⟨i_, hi_, hz_, _, _⟩ := info38
  refine eff_alloc rfl rfl hi_ hz_ #[.slice none ([] : List (List Int)).length 0, .int .i64 0] rfl (fun g23 => ?_)
  refine at_end ?_
  refine at_thn ?_
  refine at_seq ?_
  refine at_ops [0] rfl ?_
  refine at_eff rfl rfl ?_
  obtain ⟨i_, hi_, hz_, _, _⟩ := info38
  refine eff_alloc rfl rfl hi_ hz_ #[.slice none ([] : List (List Int)).length 0, .int .i64 0] rfl (fun g24 => ?_)
  refine at_end ?_
  refine at_thn ?_
  refine at_seq ?_
  refine at_ops [0, 1, 2, 3, 4] rfl ?_
  refine at_seg [0, 1] [2, 3, 4] rfl [(1, .slice A19 p18.Items.length c20)] [1, 2, 3, 5] (L2 := [(1, .pointer (some ⟨g22, 0, none⟩)), (2, .pointer (some ⟨g23, 0, none⟩)), (3, .pointer (some ⟨g24, 0, none⟩)), (5, .slice A19 p18.Items.length c20)]) (obs := [fun w => w.cell? ⟨g22, 0, none⟩ = some (.slice A19 p18.Items.length c20)]) (by kernel_rfl) ?_ ?_
  · intro w hs; exact hs.var (k := 2) rfl 0 rfl
  refine at_eff rfl rfl ?_
  obtain ⟨b2, H25, H⟩ := bind_some H
  have hm_ := laws_toInt64SS.calls (I0 := I0) H25 hr21
  refine eff_call rfl rfl ok45 rfl rfl (show Meets Try.prog 45 ([.slice A19 p18.Items.length c20] : List Value).toArray _ [] _ from hm_) (Mr := ([(g24, .cells #[.slice none ([] : List (List Int)).length 0, .int .i64 0] 38 (0, 0))] :: [(g23, .cells #[.slice none ([] : List (List Int)).length 0, .int .i64 0] 38 (0, 0))] :: [(g22, .cells #[.slice A19 p18.Items.length c20, .int .i64 p18.At] 36 (0, 0))] :: Fs)) (List.Perm.refl _) (fun v26 J27 M28 hq29 hJ30 => ?_)
  replace hle := hle.trans hJ30
  replace hr21 := hr21.mono hJ30
  obtain ⟨A31, c32, s33, rfl, rfl, ho34⟩ := hq29
  refine at_seg [3] [4] rfl [] [1, 2, 3, 6, 7] (L2 := [(1, .pointer (some ⟨g22, 0, none⟩)), (2, .pointer (some ⟨g23, 0, none⟩)), (3, .pointer (some ⟨g24, 0, none⟩)), (6, .slice A31 b2.length c32), (7, .pointer (some ⟨g24, 0, none⟩))]) (obs := []) (by kernel_rfl) ?_ ?_
  · intro w hs; exact trivial
  refine at_eff rfl rfl ?_
  refine eff_store 1 rfl rfl rfl rfl rfl rfl (.inl (Nat.le_refl _)) rfl (Nat.le_of_ble_eq_true (by kernel_rfl)) rfl ?_
  refine at_end ?_
  refine at_thn ?_
  refine at_seq ?_
  refine at_ops [0, 1, 2, 3] rfl ?_
  refine at_seg [0, 1, 2] [3] rfl [(1, .int .i64 p18.At)] [2, 3, 9, 10] (L2 := [(2, .pointer (some ⟨g23, 0, none⟩)), (3, .pointer (some ⟨g24, 0, none⟩)), (9, .int .i64 p18.At), (10, .pointer (some ⟨g24, 1, none⟩))]) (obs := [fun w => w.cell? ⟨g22, 1, none⟩ = some (.int .i64 p18.At)]) (by kernel_rfl) ?_ ?_
  · intro w hs; exact hs.var (k := 3) rfl 1 rfl
  refine at_eff rfl rfl ?_
  refine eff_store 1 rfl rfl rfl rfl rfl rfl (.inl (Nat.le_refl _)) rfl (Nat.le_of_ble_eq_true (by kernel_rfl)) rfl ?_
  refine at_end ?_
  refine at_thn ?_
  refine at_seq ?_
  refine at_ops [0, 1] rfl ?_
  refine at_seg [0] [1] rfl [(0, .agg #[.slice A31 b2.length c32, .int .i64 p18.At])] [2, 11] (L2 := [(2, .pointer (some ⟨g23, 0, none⟩)), (11, .agg #[.slice A31 b2.length c32, .int .i64 p18.At])]) (obs := [fun w => CellsAt w ⟨g24, 0, none⟩ [.slice A31 b2.length c32, .int .i64 p18.At] 0]) (by kernel_rfl) ?_ ?_
  · intro w hs; exact cellsV (k := 1) hs rfl _ 0 (Nat.le_of_ble_eq_true (by kernel_rfl)) rfl
  refine at_eff rfl rfl ?_
  refine eff_store 2 rfl rfl rfl rfl rfl rfl (.inl (Nat.le_refl _)) rfl (Nat.le_of_ble_eq_true (by kernel_rfl)) rfl ?_
  refine at_end ?_
  refine at_thn ?_
  refine at_ret ?_
  obtain rfl := Option.some.inj H
  refine at_drop (k := 1) rfl rfl ?_
  refine at_drop (k := 2) rfl rfl ?_
  refine at_done (vs := [.agg #[.slice A31 b2.length c32, .int .i64 p18.At]]) (obs := [fun w => CellsAt w ⟨g23, 0, none⟩ [.slice A31 b2.length c32, .int .i64 p18.At] 0]) (.inl rfl) [.cell 2 38] [(2, .agg #[.slice A31 b2.length c32, .int .i64 p18.At])] rfl (by kernel_rfl) (fun w hs => cellsV (k := 1) hs rfl _ 0 (Nat.le_of_ble_eq_true (by kernel_rfl)) rfl) (fun w hs => ⟨_, _, [s33], rfl, ⟨A31, c32, s33, rfl, rfl, ho34⟩, hle, (hs.tail (perm_at (k := 1) rfl))⟩)

/-! ### loop.example/g00146/spec.l01Point: function 57 -/
def spec_l01Point (p88 : Int) : Option Bool := if p88 ≥ 0 then (if p88 ≤ 1114111 then (if p88 ≥ 55296 then (some (!(decide (p88 ≤ 57343)))) else (some true)) else (some false)) else (some false)
set_option maxHeartbeats 4000000 in
set_option maxRecDepth 100000 in
theorem spec_l01Point.calls {p88 : Int} {r : Bool} {I0 : Imm} (H : spec_l01Point p88 = some r) :
    Meets Try.prog 57 ([.int .i64 p88] : List Value).toArray I0 [] (fun v J M => v = .bool r ∧ M = []) := by
  have hle := ImmLe.refl I0
  unfold spec_l01Point at H
  refine fn_intro (fn := Try.f57) 18 Try.func57 rfl rfl rfl (fun E Fs => ?_)
  refine at_seq ?_
  refine at_reg [] [0] (L2 := [(0, .int .i64 p88)]) (obs := []) (by kernel_rfl) ?_ ?_
  · intro w hs; exact trivial
  refine at_thn ?_
  refine at_seq ?_
  by_cases h89 : p88 ≥ 0
  · rw [if_pos h89] at H
    by_cases h90 : p88 ≤ 1114111
    · rw [if_pos h90] at H
      by_cases h91 : p88 ≥ 55296
      · rw [if_pos h91] at H
        refine at_reg [(2, .bool true), (6, .bool true), (9, .bool true)] [2] (L2 := [(2, .bool (!(decide (p88 ≤ 57343))))]) (obs := [fun _ => (.bool (decide (p88 ≥ 0)) : Value) = .bool true, fun _ => (.bool (decide (p88 ≤ 1114111)) : Value) = .bool true, fun _ => (.bool (decide (p88 ≥ 55296)) : Value) = .bool true]) (by kernel_rfl) ?_ ?_
        · intro w hs; exact ⟨congrArg Value.bool (decide_eq_true h89), congrArg Value.bool (decide_eq_true h90), congrArg Value.bool (decide_eq_true h91)⟩
        refine at_thn ?_
        refine at_ret ?_
        obtain rfl := Option.some.inj H
        refine at_done (vs := [.bool (!(decide (p88 ≤ 57343)))]) (obs := []) (.inl rfl) [.tmp 2] [] rfl (by kernel_rfl) (fun w hs => trivial) (fun w hs => ⟨_, _, [], rfl, ⟨rfl, rfl⟩, hle, hs⟩)
      · rw [if_neg h91] at H
        refine at_reg [(2, .bool true), (6, .bool true), (9, .bool false)] [2] (L2 := [(2, .bool true)]) (obs := [fun _ => (.bool (decide (p88 ≥ 0)) : Value) = .bool true, fun _ => (.bool (decide (p88 ≤ 1114111)) : Value) = .bool true, fun _ => (.bool (decide (p88 ≥ 55296)) : Value) = .bool false]) (by kernel_rfl) ?_ ?_
        · intro w hs; exact ⟨congrArg Value.bool (decide_eq_true h89), congrArg Value.bool (decide_eq_true h90), congrArg Value.bool (decide_eq_false h91)⟩
        refine at_thn ?_
        refine at_ret ?_
        obtain rfl := Option.some.inj H
        refine at_done (vs := [.bool true]) (obs := []) (.inl rfl) [.tmp 2] [] rfl (by kernel_rfl) (fun w hs => trivial) (fun w hs => ⟨_, _, [], rfl, ⟨rfl, rfl⟩, hle, hs⟩)
    · rw [if_neg h90] at H
      refine at_reg [(2, .bool true), (6, .bool false)] [2] (L2 := [(2, .bool false)]) (obs := [fun _ => (.bool (decide (p88 ≥ 0)) : Value) = .bool true, fun _ => (.bool (decide (p88 ≤ 1114111)) : Value) = .bool false]) (by kernel_rfl) ?_ ?_
      · intro w hs; exact ⟨congrArg Value.bool (decide_eq_true h89), congrArg Value.bool (decide_eq_false h90)⟩
      refine at_thn ?_
      refine at_ret ?_
      obtain rfl := Option.some.inj H
      refine at_done (vs := [.bool false]) (obs := []) (.inl rfl) [.tmp 2] [] rfl (by kernel_rfl) (fun w hs => trivial) (fun w hs => ⟨_, _, [], rfl, ⟨rfl, rfl⟩, hle, hs⟩)
  · rw [if_neg h89] at H
    refine at_reg [(2, .bool false)] [2] (L2 := [(2, .bool false)]) (obs := [fun _ => (.bool (decide (p88 ≥ 0)) : Value) = .bool false]) (by kernel_rfl) ?_ ?_
    · intro w hs; exact congrArg Value.bool (decide_eq_false h89)
    refine at_thn ?_
    refine at_ret ?_
    obtain rfl := Option.some.inj H
    refine at_done (vs := [.bool false]) (obs := []) (.inl rfl) [.tmp 2] [] rfl (by kernel_rfl) (fun w hs => trivial) (fun w hs => ⟨_, _, [], rfl, ⟨rfl, rfl⟩, hle, hs⟩)

/-! ### loop.example/g00146/spec.PointsRight: function 25 -/
def spec_PointsRight_l0 : Nat → Int → (List Int) → Option Bool
  | 0, _, _ => none
  | k + 1, x86, p81 => if x86 < (p81.length : Int) then (if 0 ≤ x86 then ((spec_l01Point (rdA 0 p81 x86)).bind fun b4 => (if b4 = true then (spec_PointsRight_l0 k (IntKind.i64.wrap (x86 + 1)) p81) else (some false))) else none) else (some true)
def spec_PointsRight (k : Nat) (p81 : List Int) : Option Bool := if (p81.length : Int) > 300 then (some false) else (spec_PointsRight_l0 k 0 p81)
set_option maxHeartbeats 4000000 in
set_option maxRecDepth 100000 in
theorem spec_PointsRight.calls {k : Nat} {p81 : List Int} {r : Bool} {I0 : Imm} {A82 : Option Addr} {c83 : Nat} (H : spec_PointsRight k p81 = some r) (hr84 : Rd (Kd.int .i64) I0 A82 c83 p81) :
    Meets Try.prog 25 ([.slice A82 p81.length c83] : List Value).toArray I0 [] (fun v J M => v = .bool r ∧ M = []) := by
  have hle := ImmLe.refl I0
  unfold spec_PointsRight at H
  refine fn_intro (fn := Try.f25) 19 Try.func25 rfl rfl rfl (fun E Fs => ?_)
  refine at_seq ?_
  refine at_reg [] [0] (L2 := [(0, .slice A82 p81.length c83)]) (obs := []) (by kernel_rfl) ?_ ?_
  · intro w hs; exact trivial
  refine at_thn ?_
  refine at_seq ?_
  refine at_seq ?_
  refine at_reg [] [0, 6] (L2 := [(0, .slice A82 p81.length c83), (6, .bool (decide ((p81.length : Int) > 300)))]) (obs := []) (by kernel_rfl) ?_ ?_
  · intro w hs; exact trivial
  refine at_thn ?_
  by_cases h85 : (p81.length : Int) > 300
  · rw [if_pos h85] at H
    refine at_cond_t rfl (decide_eq_true h85) ?_
    refine at_seq ?_
    refine at_reg [] [2] (L2 := [(2, .bool false)]) (obs := []) (by kernel_rfl) ?_ ?_
    · intro w hs; exact trivial
    refine at_thn ?_
    refine at_ret ?_
    refine at_then_ret ?_
    obtain rfl := Option.some.inj H
    refine at_done (vs := [.bool false]) (obs := []) (.inl rfl) [.tmp 2] [] rfl (by kernel_rfl) (fun w hs => trivial) (fun w hs => ⟨_, _, [], rfl, ⟨rfl, rfl⟩, hle, hs⟩)
  · rw [if_neg h85] at H
    refine at_cond_f rfl (decide_eq_false h85) ?_
    refine at_skip ?_
    refine at_thn ?_
    refine at_seq ?_
    refine at_seq ?_
    refine at_reg [] [0, 3] (L2 := [(0, .slice A82 p81.length c83), (3, .int .i64 0)]) (obs := []) (by kernel_rfl) ?_ ?_
    · intro w hs; exact trivial
    refine at_thn ?_
    refine at_block ?_
    refine at_keep [0, 3] (L2 := [(0, .slice A82 p81.length c83), (3, .int .i64 0)]) rfl ?_
    refine at_loop (fun k87 L I Ms => ∃ (x86 : Int), L = [(0, .slice A82 p81.length c83), (3, .int .i64 x86)] ∧ Ms = ([] ++ Fs) ∧ spec_PointsRight_l0 k87 x86 p81 = some r ∧ ImmLe I0 I ∧ k87 ≤ k ∧ Rd (Kd.int .i64) I A82 c83 p81) ?_ ?_ k ⟨0, rfl, rfl, H, hle, Nat.le_refl _, hr84⟩
    · rintro L I Ms ⟨_, rfl, rfl, H, _⟩; exact no_none H
    · clear H hle hr84
      intro k87 ih88 L I Ms h_; obtain ⟨x86, hL_, hM_, H, hle, hk89, hr84⟩ := h_; rw [hL_, hM_]; clear hL_ hM_ L Ms
      rw [spec_PointsRight_l0] at H
      refine at_seq ?_
      refine at_seq ?_
      refine at_reg [] [0, 3, 10] (L2 := [(0, .slice A82 p81.length c83), (3, .int .i64 x86), (10, .bool (decide (x86 < (p81.length : Int))))]) (obs := []) (by kernel_rfl) ?_ ?_
      · intro w hs; exact trivial
      refine at_thn ?_
      by_cases h90 : x86 < (p81.length : Int)
      · rw [if_pos h90] at H
        refine at_cond_t rfl (decide_eq_true h90) ?_
        refine at_skip ?_
        refine at_thn ?_
        refine at_seq ?_
        refine at_block ?_
        refine at_seq ?_
        refine at_ops [0, 1, 2, 3, 4, 5] rfl ?_
        obtain ⟨h91, H⟩ := ite_some H
        refine at_seg [0, 1, 2, 3] [4, 5] rfl [(3, .int .i64 (rdA 0 p81 x86))] [0, 3, 16] (L2 := [(0, .slice A82 p81.length c83), (3, .int .i64 x86), (16, .int .i64 (rdA 0 p81 x86))]) (obs := [fun _ => A82.isSome = true ∧ 0 ≤ x86 ∧ x86 < ((p81.length : Nat) : Int), fun w => w.cell? ((A82.getD ad0).add (x86.toNat * 1)) = some (.int .i64 (rdA 0 p81 x86))]) (by kernel_rfl) ?_ ?_
        · intro w hs; exact ⟨⟨hr84.ne x86 h91 h90, h91, h90⟩, hr84.one 0 x86 h91 h90 hs⟩
        refine at_eff rfl rfl ?_
        obtain ⟨b4, H92, H⟩ := bind_some H
        have hm_ := spec_l01Point.calls (I0 := I) H92
        refine eff_call rfl rfl ok57 rfl rfl (show Meets Try.prog 57 ([.int .i64 (rdA 0 p81 x86)] : List Value).toArray _ [] _ from hm_) (Mr := (Fs)) (List.Perm.refl _) (fun v93 J94 M95 hq96 hJ97 => ?_)
        replace hle := hle.trans hJ97
        replace hr84 := hr84.mono hJ97
        obtain ⟨rfl, rfl⟩ := hq96
        refine at_seg [5] [] rfl [] [0, 3, 18] (L2 := [(0, .slice A82 p81.length c83), (3, .int .i64 x86), (18, .bool (!b4))]) (obs := []) (by kernel_rfl) ?_ ?_
        · intro w hs; exact trivial
        refine at_end ?_
        refine at_thn ?_
        by_cases h98 : b4 = true
        · rw [if_pos h98] at H
          refine at_cond_f rfl (not_ff (h98)) ?_
          refine at_skip ?_
          refine at_in_norm ?_
          refine at_thn ?_
          refine at_reg [] [0, 3] (L2 := [(0, .slice A82 p81.length c83), (3, .int .i64 (IntKind.i64.wrap (x86 + 1)))]) (obs := []) (by kernel_rfl) ?_ ?_
          · intro w hs; exact trivial
          refine at_thn ?_
          refine at_keep [0, 3] (L2 := [(0, .slice A82 p81.length c83), (3, .int .i64 (IntKind.i64.wrap (x86 + 1)))]) rfl ?_
          exact ih88 _ (by omega) _ _ _ ⟨IntKind.i64.wrap (x86 + 1), rfl, rfl, H, hle, by omega, hr84⟩
        · rw [if_neg h98] at H
          refine at_cond_t rfl (not_tt (ff_of h98)) ?_
          refine at_seq ?_
          refine at_reg [] [2] (L2 := [(2, .bool false)]) (obs := []) (by kernel_rfl) ?_ ?_
          · intro w hs; exact trivial
          refine at_thn ?_
          refine at_ret ?_
          refine at_in_ret ?_
          refine at_then_ret ?_
          refine at_then_ret ?_
          refine at_in_ret ?_
          refine at_then_ret ?_
          obtain rfl := Option.some.inj H
          refine at_done (vs := [.bool false]) (obs := []) (.inl rfl) [.tmp 2] [] rfl (by kernel_rfl) (fun w hs => trivial) (fun w hs => ⟨_, _, [], rfl, ⟨rfl, rfl⟩, hle, hs⟩)
      · rw [if_neg h90] at H
        refine at_cond_f rfl (decide_eq_false h90) ?_
        refine at_exit ?_
        refine at_then_exit ?_
        refine at_then_exit ?_
        refine at_in_hit ?_
        refine at_thn ?_
        refine at_seq ?_
        refine at_reg [] [2] (L2 := [(2, .bool true)]) (obs := []) (by kernel_rfl) ?_ ?_
        · intro w hs; exact trivial
        refine at_thn ?_
        refine at_ret ?_
        obtain rfl := Option.some.inj H
        refine at_done (vs := [.bool true]) (obs := []) (.inl rfl) [.tmp 2] [] rfl (by kernel_rfl) (fun w hs => trivial) (fun w hs => ⟨_, _, [], rfl, ⟨rfl, rfl⟩, hle, hs⟩)

/-! ### loop.example/g00146/spec.l04Items: function 56 -/
def spec_l04Items_l0 : Nat → Int → (List (List Int)) → Option Bool
  | 0, _, _ => none
  | k + 1, x60, p54 => if x60 < (p54.length : Int) then (if 0 ≤ x60 then (if ((rdA [] p54 x60).length : Int) = 0 then (some false) else ((spec_PointsRight k (rdA [] p54 x60)).bind fun b4 => (if b4 = true then (spec_l04Items_l0 k (IntKind.i64.wrap (x60 + 1)) p54) else (some false)))) else none) else (some true)
def spec_l04Items (k : Nat) (p54 : List (List Int)) (p58 : Int) : Option Bool := if (p54.length : Int) > p58 then (some false) else (spec_l04Items_l0 k 0 p54)
set_option maxHeartbeats 4000000 in
set_option maxRecDepth 100000 in
theorem spec_l04Items.calls {k : Nat} {p54 : List (List Int)} {p58 : Int} {r : Bool} {I0 : Imm} {A55 : Option Addr} {c56 : Nat} (H : spec_l04Items k p54 p58 = some r) (hr57 : Rd (Kd.slice (Kd.int .i64)) I0 A55 c56 p54) :
    Meets Try.prog 56 ([.slice A55 p54.length c56, .int .i64 p58] : List Value).toArray I0 [] (fun v J M => v = .bool r ∧ M = []) := by
  have hle := ImmLe.refl I0
  unfold spec_l04Items at H
  refine fn_intro (fn := Try.f56) 30 Try.func56 rfl rfl rfl (fun E Fs => ?_)
  refine at_seq ?_
  refine at_reg [] [0, 1] (L2 := [(0, .slice A55 p54.length c56), (1, .int .i64 p58)]) (obs := []) (by kernel_rfl) ?_ ?_
  · intro w hs; exact trivial
  refine at_thn ?_
  refine at_seq ?_
  refine at_seq ?_
  refine at_reg [] [0, 9] (L2 := [(0, .slice A55 p54.length c56), (9, .bool (decide ((p54.length : Int) > p58)))]) (obs := []) (by kernel_rfl) ?_ ?_
  · intro w hs; exact trivial
  refine at_thn ?_
  by_cases h59 : (p54.length : Int) > p58
  · rw [if_pos h59] at H
    refine at_cond_t rfl (decide_eq_true h59) ?_
    refine at_seq ?_
    refine at_reg [] [4] (L2 := [(4, .bool false)]) (obs := []) (by kernel_rfl) ?_ ?_
    · intro w hs; exact trivial
    refine at_thn ?_
    refine at_ret ?_
    refine at_then_ret ?_
    obtain rfl := Option.some.inj H
    refine at_done (vs := [.bool false]) (obs := []) (.inl rfl) [.tmp 4] [] rfl (by kernel_rfl) (fun w hs => trivial) (fun w hs => ⟨_, _, [], rfl, ⟨rfl, rfl⟩, hle, hs⟩)
  · rw [if_neg h59] at H
    refine at_cond_f rfl (decide_eq_false h59) ?_
    refine at_skip ?_
    refine at_thn ?_
    refine at_seq ?_
    refine at_seq ?_
    refine at_reg [] [0, 5] (L2 := [(0, .slice A55 p54.length c56), (5, .int .i64 0)]) (obs := []) (by kernel_rfl) ?_ ?_
    · intro w hs; exact trivial
    refine at_thn ?_
    refine at_block ?_
    refine at_keep [0, 5] (L2 := [(0, .slice A55 p54.length c56), (5, .int .i64 0)]) rfl ?_
    refine at_loop (fun k61 L I Ms => ∃ (x60 : Int), L = [(0, .slice A55 p54.length c56), (5, .int .i64 x60)] ∧ Ms = ([] ++ Fs) ∧ spec_l04Items_l0 k61 x60 p54 = some r ∧ ImmLe I0 I ∧ k61 ≤ k ∧ Rd (Kd.slice (Kd.int .i64)) I A55 c56 p54) ?_ ?_ k ⟨0, rfl, rfl, H, hle, Nat.le_refl _, hr57⟩
    · rintro L I Ms ⟨_, rfl, rfl, H, _⟩; exact no_none H
    · clear H hle hr57
      intro k61 ih62 L I Ms h_; obtain ⟨x60, hL_, hM_, H, hle, hk63, hr57⟩ := h_; rw [hL_, hM_]; clear hL_ hM_ L Ms
      rw [spec_l04Items_l0] at H
      refine at_seq ?_
      refine at_seq ?_
      refine at_reg [] [0, 5, 13] (L2 := [(0, .slice A55 p54.length c56), (5, .int .i64 x60), (13, .bool (decide (x60 < (p54.length : Int))))]) (obs := []) (by kernel_rfl) ?_ ?_
      · intro w hs; exact trivial
      refine at_thn ?_
      by_cases h64 : x60 < (p54.length : Int)
      · rw [if_pos h64] at H
        refine at_cond_t rfl (decide_eq_true h64) ?_
        refine at_skip ?_
        refine at_thn ?_
        refine at_seq ?_
        refine at_block ?_
        refine at_seq ?_
        refine at_ops [0, 1, 2, 3, 4, 5, 6, 7, 8, 9, 10, 11, 12, 13] rfl ?_
        obtain ⟨h65, H⟩ := ite_some H
        by_cases h72 : ((rdA [] p54 x60).length : Int) = 0
        · rw [if_pos h72] at H
          obtain ⟨cs77, hz78, hc73⟩ := hr57.elem [] x60 h65 h64
          obtain ⟨A74, c75, rfl, hr76⟩ := hz78
          refine at_seg [0, 1, 2, 3, 4, 5, 6, 7, 8, 9, 10] [11, 12, 13] rfl [(3, .slice A74 (rdA [] p54 x60).length c75), (6, .bool true)] [0, 5, 22, 26] (L2 := [(0, .slice A55 p54.length c56), (5, .int .i64 x60), (22, .bool true), (26, undef)]) (obs := [fun _ => A55.isSome = true ∧ 0 ≤ x60 ∧ x60 < ((p54.length : Nat) : Int), fun w => w.cell? ((A55.getD ad0).add (x60.toNat * 1)) = some (.slice A74 (rdA [] p54 x60).length c75), fun _ => (.bool (((rdA [] p54 x60).length : Int) == 0) : Value) = .bool true]) (by kernel_rfl) ?_ ?_
          · intro w hs; exact ⟨⟨hr57.ne x60 h65 h64, h65, h64⟩, cell0 (hc73 0 _ rfl hs), congrArg Value.bool (beq_iff_eq.2 h72)⟩
          refine at_seg [11, 12, 13] [] rfl [] [0, 5, 29] (L2 := [(0, .slice A55 p54.length c56), (5, .int .i64 x60), (29, .bool true)]) (obs := []) (by kernel_rfl) ?_ ?_
          · intro w hs; exact trivial
          refine at_end ?_
          refine at_thn ?_
          refine at_cond_t rfl (rfl) ?_
          refine at_seq ?_
          refine at_reg [] [4] (L2 := [(4, .bool false)]) (obs := []) (by kernel_rfl) ?_ ?_
          · intro w hs; exact trivial
          refine at_thn ?_
          refine at_ret ?_
          refine at_in_ret ?_
          refine at_then_ret ?_
          refine at_then_ret ?_
          refine at_in_ret ?_
          refine at_then_ret ?_
          obtain rfl := Option.some.inj H
          refine at_done (vs := [.bool false]) (obs := []) (.inl rfl) [.tmp 4] [] rfl (by kernel_rfl) (fun w hs => trivial) (fun w hs => ⟨_, _, [], rfl, ⟨rfl, rfl⟩, hle, hs⟩)
        · rw [if_neg h72] at H
          obtain ⟨cs83, hz84, hc79⟩ := hr57.elem [] x60 h65 h64
          obtain ⟨A80, c81, rfl, hr82⟩ := hz84
          refine at_seg [0, 1, 2, 3, 4, 5, 6, 7, 8, 9, 10] [11, 12, 13] rfl [(3, .slice A80 (rdA [] p54 x60).length c81), (6, .bool false), (10, .slice A80 (rdA [] p54 x60).length c81)] [0, 5, 22, 26] (L2 := [(0, .slice A55 p54.length c56), (5, .int .i64 x60), (22, .bool false), (26, .slice A80 (rdA [] p54 x60).length c81)]) (obs := [fun _ => A55.isSome = true ∧ 0 ≤ x60 ∧ x60 < ((p54.length : Nat) : Int), fun w => w.cell? ((A55.getD ad0).add (x60.toNat * 1)) = some (.slice A80 (rdA [] p54 x60).length c81), fun _ => (.bool (((rdA [] p54 x60).length : Int) == 0) : Value) = .bool false, fun _ => A55.isSome = true ∧ 0 ≤ x60 ∧ x60 < ((p54.length : Nat) : Int), fun w => w.cell? ((A55.getD ad0).add (x60.toNat * 1)) = some (.slice A80 (rdA [] p54 x60).length c81)]) (by kernel_rfl) ?_ ?_
          · intro w hs; exact ⟨⟨hr57.ne x60 h65 h64, h65, h64⟩, cell0 (hc79 0 _ rfl hs), congrArg Value.bool (beq_eq_false_iff_ne.2 h72), ⟨hr57.ne x60 h65 h64, h65, h64⟩, cell0 (hc79 0 _ rfl hs)⟩
          refine at_eff rfl rfl ?_
          obtain ⟨b4, H85, H⟩ := bind_some H
          have hm_ := spec_PointsRight.calls (I0 := I) H85 hr82
          refine eff_call rfl rfl ok25 rfl rfl (show Meets Try.prog 25 ([.slice A80 (rdA [] p54 x60).length c81] : List Value).toArray _ [] _ from hm_) (Mr := (Fs)) (List.Perm.refl _) (fun v86 J87 M88 hq89 hJ90 => ?_)
          replace hle := hle.trans hJ90
          replace hr57 := hr57.mono hJ90
          replace hr82 := hr82.mono hJ90
          obtain ⟨rfl, rfl⟩ := hq89
          refine at_seg [12, 13] [] rfl [] [0, 5, 29] (L2 := [(0, .slice A55 p54.length c56), (5, .int .i64 x60), (29, .bool (!b4))]) (obs := []) (by kernel_rfl) ?_ ?_
          · intro w hs; exact trivial
          refine at_end ?_
          refine at_thn ?_
          by_cases h91 : b4 = true
          · rw [if_pos h91] at H
            refine at_cond_f rfl (not_ff (h91)) ?_
            refine at_skip ?_
            refine at_in_norm ?_
            refine at_thn ?_
            refine at_reg [] [0, 5] (L2 := [(0, .slice A55 p54.length c56), (5, .int .i64 (IntKind.i64.wrap (x60 + 1)))]) (obs := []) (by kernel_rfl) ?_ ?_
            · intro w hs; exact trivial
            refine at_thn ?_
            refine at_keep [0, 5] (L2 := [(0, .slice A55 p54.length c56), (5, .int .i64 (IntKind.i64.wrap (x60 + 1)))]) rfl ?_
            exact ih62 _ (by omega) _ _ _ ⟨IntKind.i64.wrap (x60 + 1), rfl, rfl, H, hle, by omega, hr57⟩
          · rw [if_neg h91] at H
            refine at_cond_t rfl (not_tt (ff_of h91)) ?_
            refine at_seq ?_
            refine at_reg [] [4] (L2 := [(4, .bool false)]) (obs := []) (by kernel_rfl) ?_ ?_
            · intro w hs; exact trivial
            refine at_thn ?_
            refine at_ret ?_
            refine at_in_ret ?_
            refine at_then_ret ?_
            refine at_then_ret ?_
            refine at_in_ret ?_
            refine at_then_ret ?_
            obtain rfl := Option.some.inj H
            refine at_done (vs := [.bool false]) (obs := []) (.inl rfl) [.tmp 4] [] rfl (by kernel_rfl) (fun w hs => trivial) (fun w hs => ⟨_, _, [], rfl, ⟨rfl, rfl⟩, hle, hs⟩)
      · rw [if_neg h64] at H
        refine at_cond_f rfl (decide_eq_false h64) ?_
        refine at_exit ?_
        refine at_then_exit ?_
        refine at_then_exit ?_
        refine at_in_hit ?_
        refine at_thn ?_
        refine at_seq ?_
        refine at_reg [] [4] (L2 := [(4, .bool true)]) (obs := []) (by kernel_rfl) ?_ ?_
        · intro w hs; exact trivial
        refine at_thn ?_
        refine at_ret ?_
        obtain rfl := Option.some.inj H
        refine at_done (vs := [.bool true]) (obs := []) (.inl rfl) [.tmp 4] [] rfl (by kernel_rfl) (fun w hs => trivial) (fun w hs => ⟨_, _, [], rfl, ⟨rfl, rfl⟩, hle, hs⟩)

/-! ### loop.example/g00146/spec.RingRight: function 24 -/
def spec_RingRight (k : Nat) (p49 : T_impl_Ring) : Option Bool := (spec_l04Items k p49.Items 10).bind fun b4 => (if b4 = true then (if p49.At ≥ 0 then (if p49.At < (p49.Items.length : Int) then (some true) else (if p49.At = 0 then (some ((p49.Items.length : Int) == 0)) else (some false))) else (some false)) else (some false))
set_option maxHeartbeats 4000000 in
set_option maxRecDepth 100000 in
theorem spec_RingRight.calls {k : Nat} {p49 : T_impl_Ring} {r : Bool} {I0 : Imm} {A50 : Option Addr} {c51 : Nat} (H : spec_RingRight k p49 = some r) (hr52 : Rd (Kd.slice (Kd.int .i64)) I0 A50 c51 p49.Items) :
    Meets Try.prog 24 ([.agg #[.slice A50 p49.Items.length c51, .int .i64 p49.At]] : List Value).toArray I0 [] (fun v J M => v = .bool r ∧ M = []) := by
  have hle := ImmLe.refl I0
  unfold spec_RingRight at H
  refine fn_intro (fn := Try.f24) 30 Try.func24 rfl rfl rfl (fun E Fs => ?_)
  refine at_seq ?_
  refine at_ops [0, 1] rfl ?_
  refine at_eff rfl rfl ?_
  refine eff_box rfl rfl rfl #[.slice A50 p49.Items.length c51, .int .i64 p49.At] rfl (fun g53 => ?_)
  refine at_seg [1] [] rfl [] [1] (L2 := [(1, .pointer (some ⟨g53, 0, none⟩))]) (obs := []) (by kernel_rfl) ?_ ?_
  · intro w hs; exact trivial
  refine at_end ?_
  refine at_thn ?_
  refine at_seq ?_
  refine at_ops [0, 1, 2, 3, 4, 5, 6, 7, 8, 9, 10, 11, 12, 13, 14, 15, 16, 17, 18, 19, 20, 21, 22, 23, 24, 25, 26, 27] rfl ?_
  refine at_seg [0, 1] [2, 3, 4, 5, 6, 7, 8, 9, 10, 11, 12, 13, 14, 15, 16, 17, 18, 19, 20, 21, 22, 23, 24, 25, 26, 27] rfl [(1, .slice A50 p49.Items.length c51)] [1, 4] (L2 := [(1, .pointer (some ⟨g53, 0, none⟩)), (4, .slice A50 p49.Items.length c51)]) (obs := [fun w => w.cell? ⟨g53, 0, none⟩ = some (.slice A50 p49.Items.length c51)]) (by kernel_rfl) ?_ ?_
  · intro w hs; exact hs.var (k := 0) rfl 0 rfl
  refine at_eff rfl rfl ?_
  obtain ⟨b4, H54, H⟩ := bind_some H
  have hm_ := spec_l04Items.calls (I0 := I0) H54 hr52
  refine eff_call rfl rfl ok56 rfl rfl (show Meets Try.prog 56 ([.slice A50 p49.Items.length c51, .int .i64 10] : List Value).toArray _ [] _ from hm_) (Mr := ([(g53, .cells #[.slice A50 p49.Items.length c51, .int .i64 p49.At] 38 (0, 0))] :: Fs)) (List.Perm.refl _) (fun v55 J56 M57 hq58 hJ59 => ?_)
  replace hle := hle.trans hJ59
  replace hr52 := hr52.mono hJ59
  obtain ⟨rfl, rfl⟩ := hq58
  by_cases h60 : b4 = true
  · rw [if_pos h60] at H
    by_cases h61 : p49.At ≥ 0
    · rw [if_pos h61] at H
      by_cases h62 : p49.At < (p49.Items.length : Int)
      · rw [if_pos h62] at H
        refine at_seg [3, 4, 5, 6, 7, 8, 9, 10, 11, 12, 13, 14, 15, 16, 17, 18, 19, 20, 21, 22, 23, 24, 25, 26, 27] [] rfl [(3, .bool true), (5, .int .i64 p49.At), (8, .bool true), (10, .int .i64 p49.At), (12, .slice A50 p49.Items.length c51), (15, .bool true)] [2] (L2 := [(2, .bool true)]) (obs := [fun _ => (.bool b4 : Value) = .bool true, fun w => w.cell? ⟨g53, 1, none⟩ = some (.int .i64 p49.At), fun _ => (.bool (decide (p49.At ≥ 0)) : Value) = .bool true, fun w => w.cell? ⟨g53, 1, none⟩ = some (.int .i64 p49.At), fun w => w.cell? ⟨g53, 0, none⟩ = some (.slice A50 p49.Items.length c51), fun _ => (.bool (decide (p49.At < (p49.Items.length : Int))) : Value) = .bool true]) (by kernel_rfl) ?_ ?_
        · intro w hs; exact ⟨congrArg Value.bool (h60), hs.var (k := 0) rfl 1 rfl, congrArg Value.bool (decide_eq_true h61), hs.var (k := 0) rfl 1 rfl, hs.var (k := 0) rfl 0 rfl, congrArg Value.bool (decide_eq_true h62)⟩
        refine at_end ?_
        refine at_thn ?_
        refine at_ret ?_
        obtain rfl := Option.some.inj H
        refine at_drop (k := 0) rfl rfl ?_
        refine at_done (vs := [.bool true]) (obs := []) (.inl rfl) [.tmp 2] [] rfl (by kernel_rfl) (fun w hs => trivial) (fun w hs => ⟨_, _, [], rfl, ⟨rfl, rfl⟩, hle, hs⟩)
      · rw [if_neg h62] at H
        by_cases h63 : p49.At = 0
        · rw [if_pos h63] at H
          refine at_seg [3, 4, 5, 6, 7, 8, 9, 10, 11, 12, 13, 14, 15, 16, 17, 18, 19, 20, 21, 22, 23, 24, 25, 26, 27] [] rfl [(3, .bool true), (5, .int .i64 p49.At), (8, .bool true), (10, .int .i64 p49.At), (12, .slice A50 p49.Items.length c51), (15, .bool false), (17, .int .i64 p49.At), (19, .bool true), (21, .slice A50 p49.Items.length c51)] [2] (L2 := [(2, .bool ((p49.Items.length : Int) == 0))]) (obs := [fun _ => (.bool b4 : Value) = .bool true, fun w => w.cell? ⟨g53, 1, none⟩ = some (.int .i64 p49.At), fun _ => (.bool (decide (p49.At ≥ 0)) : Value) = .bool true, fun w => w.cell? ⟨g53, 1, none⟩ = some (.int .i64 p49.At), fun w => w.cell? ⟨g53, 0, none⟩ = some (.slice A50 p49.Items.length c51), fun _ => (.bool (decide (p49.At < (p49.Items.length : Int))) : Value) = .bool false, fun w => w.cell? ⟨g53, 1, none⟩ = some (.int .i64 p49.At), fun _ => (.bool (p49.At == 0) : Value) = .bool true, fun w => w.cell? ⟨g53, 0, none⟩ = some (.slice A50 p49.Items.length c51)]) (by kernel_rfl) ?_ ?_
          · intro w hs; exact ⟨congrArg Value.bool (h60), hs.var (k := 0) rfl 1 rfl, congrArg Value.bool (decide_eq_true h61), hs.var (k := 0) rfl 1 rfl, hs.var (k := 0) rfl 0 rfl, congrArg Value.bool (decide_eq_false h62), hs.var (k := 0) rfl 1 rfl, congrArg Value.bool (beq_iff_eq.2 h63), hs.var (k := 0) rfl 0 rfl⟩
          refine at_end ?_
          refine at_thn ?_
          refine at_ret ?_
          obtain rfl := Option.some.inj H
          refine at_drop (k := 0) rfl rfl ?_
          refine at_done (vs := [.bool ((p49.Items.length : Int) == 0)]) (obs := []) (.inl rfl) [.tmp 2] [] rfl (by kernel_rfl) (fun w hs => trivial) (fun w hs => ⟨_, _, [], rfl, ⟨rfl, rfl⟩, hle, hs⟩)
        · rw [if_neg h63] at H
          refine at_seg [3, 4, 5, 6, 7, 8, 9, 10, 11, 12, 13, 14, 15, 16, 17, 18, 19, 20, 21, 22, 23, 24, 25, 26, 27] [] rfl [(3, .bool true), (5, .int .i64 p49.At), (8, .bool true), (10, .int .i64 p49.At), (12, .slice A50 p49.Items.length c51), (15, .bool false), (17, .int .i64 p49.At), (19, .bool false)] [2] (L2 := [(2, .bool false)]) (obs := [fun _ => (.bool b4 : Value) = .bool true, fun w => w.cell? ⟨g53, 1, none⟩ = some (.int .i64 p49.At), fun _ => (.bool (decide (p49.At ≥ 0)) : Value) = .bool true, fun w => w.cell? ⟨g53, 1, none⟩ = some (.int .i64 p49.At), fun w => w.cell? ⟨g53, 0, none⟩ = some (.slice A50 p49.Items.length c51), fun _ => (.bool (decide (p49.At < (p49.Items.length : Int))) : Value) = .bool false, fun w => w.cell? ⟨g53, 1, none⟩ = some (.int .i64 p49.At), fun _ => (.bool (p49.At == 0) : Value) = .bool false]) (by kernel_rfl) ?_ ?_
          · intro w hs; exact ⟨congrArg Value.bool (h60), hs.var (k := 0) rfl 1 rfl, congrArg Value.bool (decide_eq_true h61), hs.var (k := 0) rfl 1 rfl, hs.var (k := 0) rfl 0 rfl, congrArg Value.bool (decide_eq_false h62), hs.var (k := 0) rfl 1 rfl, congrArg Value.bool (beq_eq_false_iff_ne.2 h63)⟩
          refine at_end ?_
          refine at_thn ?_
          refine at_ret ?_
          obtain rfl := Option.some.inj H
          refine at_drop (k := 0) rfl rfl ?_
          refine at_done (vs := [.bool false]) (obs := []) (.inl rfl) [.tmp 2] [] rfl (by kernel_rfl) (fun w hs => trivial) (fun w hs => ⟨_, _, [], rfl, ⟨rfl, rfl⟩, hle, hs⟩)
    · rw [if_neg h61] at H
      refine at_seg [3, 4, 5, 6, 7, 8, 9, 10, 11, 12, 13, 14, 15, 16, 17, 18, 19, 20, 21, 22, 23, 24, 25, 26, 27] [] rfl [(3, .bool true), (5, .int .i64 p49.At), (8, .bool false)] [2] (L2 := [(2, .bool false)]) (obs := [fun _ => (.bool b4 : Value) = .bool true, fun w => w.cell? ⟨g53, 1, none⟩ = some (.int .i64 p49.At), fun _ => (.bool (decide (p49.At ≥ 0)) : Value) = .bool false]) (by kernel_rfl) ?_ ?_
      · intro w hs; exact ⟨congrArg Value.bool (h60), hs.var (k := 0) rfl 1 rfl, congrArg Value.bool (decide_eq_false h61)⟩
      refine at_end ?_
      refine at_thn ?_
      refine at_ret ?_
      obtain rfl := Option.some.inj H
      refine at_drop (k := 0) rfl rfl ?_
      refine at_done (vs := [.bool false]) (obs := []) (.inl rfl) [.tmp 2] [] rfl (by kernel_rfl) (fun w hs => trivial) (fun w hs => ⟨_, _, [], rfl, ⟨rfl, rfl⟩, hle, hs⟩)
  · rw [if_neg h60] at H
    refine at_seg [3, 4, 5, 6, 7, 8, 9, 10, 11, 12, 13, 14, 15, 16, 17, 18, 19, 20, 21, 22, 23, 24, 25, 26, 27] [] rfl [(3, .bool false)] [2] (L2 := [(2, .bool false)]) (obs := [fun _ => (.bool b4 : Value) = .bool false]) (by kernel_rfl) ?_ ?_
    · intro w hs; exact congrArg Value.bool (ff_of h60)
    refine at_end ?_
    refine at_thn ?_
    refine at_ret ?_
    obtain rfl := Option.some.inj H
    refine at_drop (k := 0) rfl rfl ?_
    refine at_done (vs := [.bool false]) (obs := []) (.inl rfl) [.tmp 2] [] rfl (by kernel_rfl) (fun w hs => trivial) (fun w hs => ⟨_, _, [], rfl, ⟨rfl, rfl⟩, hle, hs⟩)

/-! ### loop.example/g00146/spec.l01Copy: function 43 -/
def spec_l01Copy (p72 : List Int) : Option (List Int) := if ([] : List Int).length + p72.length ≤ 17592186044416 then (some (([] : List Int) ++ p72)) else none
set_option maxHeartbeats 4000000 in
set_option maxRecDepth 100000 in
theorem spec_l01Copy.calls {p72 : List Int} {r : (List Int)} {I0 : Imm} {A73 : Option Addr} {c74 : Nat} (H : spec_l01Copy p72 = some r) (hr75 : Rd (Kd.int .i64) I0 A73 c74 p72) :
    Meets Try.prog 43 ([.slice A73 p72.length c74] : List Value).toArray I0 [] (fun v J M => ∃ (A_1 : Option Addr) (c_2 : Nat) (s_3 : Seg), v = .slice A_1 r.length c_2 ∧ M = [s_3] ∧ Own (Kd.int .i64) 2 J A_1 c_2 r s_3) := by
  have hle := ImmLe.refl I0
  unfold spec_l01Copy at H
  refine fn_intro (fn := Try.f43) 6 Try.func43 rfl rfl rfl (fun E Fs => ?_)
  refine at_seq ?_
  refine at_reg [] [0] (L2 := [(0, .slice A73 p72.length c74)]) (obs := []) (by kernel_rfl) ?_ ?_
  · intro w hs; exact trivial
  refine at_thn ?_
  refine at_seq ?_
  refine at_ops [0, 1, 2, 3] rfl ?_
  refine at_eff rfl rfl ?_
  refine eff_buildSlice (e := 2) (cells := #[]) ([] : List Int).length rfl rfl rfl (by kernel_rfl) (fun g76 => ?_)
  have ho77 := own_lit (K := (Kd.int .i64)) (e := 2) (I := I0) (xs := ([] : List Int)) (css := []) (cells := #[]) (b := g76) trivial rfl
  refine at_seg [1] [2, 3] rfl [] [3, 4] (L2 := [(3, .slice (some ⟨g76, 0, none⟩ : Option Addr) ([] : List Int).length (([] : List Int).length)), (4, .slice A73 p72.length c74)]) (obs := []) (by kernel_rfl) ?_ ?_
  · intro w hs; exact trivial
  refine at_eff rfl rfl ?_
  obtain ⟨h78, H⟩ := ite_some H
  obtain ⟨i_, hi_, hz_, hs_, hb_⟩ := info2
  refine eff_append (K := (Kd.int .i64)) (xs := ([] : List Int)) (ys := p72) 0 rfl rfl rfl rfl rfl und23 und23 hi_ hz_ hs_ rfl rfl rfl ho77 rfl (fun w hs => hr75.rowAt hs) (by rw [hb_]; omega) (by omega) (fun A79 c80 s81 ho82 => ?_)
  refine at_seg [3] [] rfl [] [2] (L2 := [(2, .slice A79 (([] : List Int) ++ p72).length c80)]) (obs := []) (by kernel_rfl) ?_ ?_
  · intro w hs; exact trivial
  refine at_end ?_
  refine at_thn ?_
  refine at_ret ?_
  obtain rfl := Option.some.inj H
  refine at_done (vs := [.slice A79 (([] : List Int) ++ p72).length c80]) (obs := []) (.inl rfl) [.tmp 2] [] rfl (by kernel_rfl) (fun w hs => trivial) (fun w hs => ⟨_, _, [s81], rfl, ⟨A79, c80, s81, rfl, rfl, ho82⟩, hle, hs⟩)

/-! ### loop.example/g00146/spec.l04CopyAll: function 44 -/
def spec_l04CopyAll_l0 : Nat → (List (List Int)) → Int → (List (List Int)) → Option (List (List Int))
  | 0, _, _, _ => none
  | k + 1, x64, x69, p58 => if x69 < (p58.length : Int) then (if 0 ≤ x69 then ((spec_l01Copy (rdA [] p58 x69)).bind fun b4 => (if x64.length + ([b4] : List (List Int)).length ≤ 5864062014805 then (spec_l04CopyAll_l0 k (x64 ++ ([b4] : List (List Int))) (IntKind.i64.wrap (x69 + 1)) p58) else none)) else none) else (some x64)
def spec_l04CopyAll (k : Nat) (p58 : List (List Int)) : Option (List (List Int)) := spec_l04CopyAll_l0 k ([] : List (List Int)) 0 p58
set_option maxHeartbeats 4000000 in
set_option maxRecDepth 100000 in
theorem spec_l04CopyAll.calls {k : Nat} {p58 : List (List Int)} {r : (List (List Int))} {I0 : Imm} {A59 : Option Addr} {c60 : Nat} (H : spec_l04CopyAll k p58 = some r) (hr61 : Rd (Kd.slice (Kd.int .i64)) I0 A59 c60 p58) :
    Meets Try.prog 44 ([.slice A59 p58.length c60] : List Value).toArray I0 [] (fun v J M => ∃ (A_1 : Option Addr) (c_2 : Nat) (s_3 : Seg), v = .slice A_1 r.length c_2 ∧ M = [s_3] ∧ Own (Kd.slice (Kd.int .i64)) 23 J A_1 c_2 r s_3) := by
  have hle := ImmLe.refl I0
  unfold spec_l04CopyAll at H
  refine fn_intro (fn := Try.f44) 21 Try.func44 rfl rfl rfl (fun E Fs => ?_)
  refine at_seq ?_
  refine at_reg [] [0] (L2 := [(0, .slice A59 p58.length c60)]) (obs := []) (by kernel_rfl) ?_ ?_
  · intro w hs; exact trivial
  refine at_thn ?_
  refine at_seq ?_
  refine at_ops [0, 1] rfl ?_
  refine at_eff rfl rfl ?_
  refine eff_buildSlice (e := 23) (cells := #[]) ([] : List (List Int)).length rfl rfl rfl (by kernel_rfl) (fun g62 => ?_)
  have ho63 := own_lit (K := (Kd.slice (Kd.int .i64))) (e := 23) (I := I0) (xs := ([] : List (List Int))) (css := []) (cells := #[]) (b := g62) trivial rfl
  refine at_seg [1] [] rfl [] [0, 3] (L2 := [(0, .slice A59 p58.length c60), (3, .slice (some ⟨g62, 0, none⟩ : Option Addr) ([] : List (List Int)).length (([] : List (List Int)).length))]) (obs := []) (by kernel_rfl) ?_ ?_
  · intro w hs; exact trivial
  refine at_end ?_
  refine at_thn ?_
  refine at_seq ?_
  refine at_seq ?_
  refine at_reg [] [0, 3, 4] (L2 := [(0, .slice A59 p58.length c60), (3, .slice (some ⟨g62, 0, none⟩ : Option Addr) ([] : List (List Int)).length (([] : List (List Int)).length)), (4, .int .i64 0)]) (obs := []) (by kernel_rfl) ?_ ?_
  · intro w hs; exact trivial
  refine at_thn ?_
  refine at_block ?_
  refine at_keep [0, 3, 4] (L2 := [(0, .slice A59 p58.length c60), (3, .slice (some ⟨g62, 0, none⟩ : Option Addr) ([] : List (List Int)).length (([] : List (List Int)).length)), (4, .int .i64 0)]) rfl ?_
  refine at_loop (fun k70 L I Ms => ∃ (x64 : List (List Int)) (A65 : Option Addr) (c66 : Nat) (s67 : Seg) (x69 : Int), L = [(0, .slice A59 p58.length c60), (3, .slice A65 x64.length c66), (4, .int .i64 x69)] ∧ Ms = (s67 :: Fs) ∧ spec_l04CopyAll_l0 k70 x64 x69 p58 = some r ∧ ImmLe I0 I ∧ k70 ≤ k ∧ Own (Kd.slice (Kd.int .i64)) 23 I A65 c66 x64 s67 ∧ Rd (Kd.slice (Kd.int .i64)) I A59 c60 p58) ?_ ?_ k ⟨([] : List (List Int)), (some ⟨g62, 0, none⟩ : Option Addr), ([] : List (List Int)).length, [(g62, .cells #[] 23 (0, 0))], 0, rfl, rfl, H, hle, Nat.le_refl _, ho63, hr61⟩
  · rintro L I Ms ⟨_, _, _, _, _, rfl, rfl, H, _⟩; exact no_none H
  · clear H hle ho63 hr61
    intro k70 ih71 L I Ms h_; obtain ⟨x64, A65, c66, s67, x69, hL_, hM_, H, hle, hk72, ho68, hr61⟩ := h_; rw [hL_, hM_]; clear hL_ hM_ L Ms
    rw [spec_l04CopyAll_l0] at H
    refine at_seq ?_
    refine at_seq ?_
    refine at_reg [] [0, 3, 4, 9] (L2 := [(0, .slice A59 p58.length c60), (3, .slice A65 x64.length c66), (4, .int .i64 x69), (9, .bool (decide (x69 < (p58.length : Int))))]) (obs := []) (by kernel_rfl) ?_ ?_
    · intro w hs; exact trivial
    refine at_thn ?_
    by_cases h73 : x69 < (p58.length : Int)
    · rw [if_pos h73] at H
      refine at_cond_t rfl (decide_eq_true h73) ?_
      refine at_skip ?_
      refine at_thn ?_
      refine at_seq ?_
      refine at_block ?_
      refine at_ops [0, 1, 2, 3, 4, 5, 6, 7, 8] rfl ?_
      obtain ⟨h74, H⟩ := ite_some H
      obtain ⟨cs79, hz80, hc75⟩ := hr61.elem [] x69 h74 h73
      obtain ⟨A76, c77, rfl, hr78⟩ := hz80
      refine at_seg [0, 1, 2, 3, 4] [5, 6, 7, 8] rfl [(4, .slice A76 (rdA [] p58 x69).length c77)] [0, 3, 4, 12, 16] (L2 := [(0, .slice A59 p58.length c60), (3, .slice A65 x64.length c66), (4, .int .i64 x69), (12, .slice A65 x64.length c66), (16, .slice A76 (rdA [] p58 x69).length c77)]) (obs := [fun _ => A59.isSome = true ∧ 0 ≤ x69 ∧ x69 < ((p58.length : Nat) : Int), fun w => w.cell? ((A59.getD ad0).add (x69.toNat * 1)) = some (.slice A76 (rdA [] p58 x69).length c77)]) (by kernel_rfl) ?_ ?_
      · intro w hs; exact ⟨⟨hr61.ne x69 h74 h73, h74, h73⟩, cell0 (hc75 0 _ rfl hs)⟩
      refine at_eff rfl rfl ?_
      obtain ⟨b4, H81, H⟩ := bind_some H
      have hm_ := spec_l01Copy.calls (I0 := I) H81 hr78
      refine eff_call rfl rfl ok43 rfl rfl (show Meets Try.prog 43 ([.slice A76 (rdA [] p58 x69).length c77] : List Value).toArray _ [] _ from hm_) (Mr := (s67 :: Fs)) (List.Perm.refl _) (fun v82 J83 M84 hq85 hJ86 => ?_)
      replace hle := hle.trans hJ86
      replace ho68 := ho68.mono hJ86
      replace hr61 := hr61.mono hJ86
      replace hr78 := hr78.mono hJ86
      obtain ⟨A87, c88, s89, rfl, rfl, ho90⟩ := hq85
      refine at_eff rfl rfl ?_
      refine at_freeze (k := 0) rfl rfl (fun J91 hJ92 hin93 => ?_)
      replace hle := hle.trans hJ92
      replace ho68 := ho68.mono hJ92
      replace ho90 := ho90.mono hJ92
      replace hr61 := hr61.mono hJ92
      replace hr78 := hr78.mono hJ92
      have hr94 := ho90.rd (ImmLe.refl _) hin93
      refine eff_buildSlice (e := 23) (cells := #[.slice A87 b4.length c88]) ([b4] : List (List Int)).length rfl rfl rfl (by kernel_rfl) (fun g95 => ?_)
      have ho96 := own_lit (K := (Kd.slice (Kd.int .i64))) (e := 23) (I := J91) (xs := ([b4] : List (List Int))) (css := [[.slice A87 b4.length c88]]) (cells := #[.slice A87 b4.length c88]) (b := g95) ⟨⟨A87, c88, rfl, hr94⟩, trivial⟩ rfl
      refine at_eff rfl rfl ?_
      obtain ⟨h97, H⟩ := ite_some H
      obtain ⟨i_, hi_, hz_, hs_, hb_⟩ := info23
      refine eff_append (K := (Kd.slice (Kd.int .i64))) (xs := x64) (ys := ([b4] : List (List Int))) 1 rfl rfl rfl rfl rfl und34 und34 hi_ hz_ hs_ rfl rfl rfl ho68 rfl (fun w hs => ho96.rowAt (k := 0) hs rfl) (by rw [hb_]; omega) (by omega) (fun A98 c99 s100 ho101 => ?_)
      refine at_seg [8] [] rfl [] [0, 3, 4] (L2 := [(0, .slice A59 p58.length c60), (3, .slice A98 (x64 ++ ([b4] : List (List Int))).length c99), (4, .int .i64 x69)]) (obs := []) (by kernel_rfl) ?_ ?_
      · intro w hs; exact trivial
      refine at_end ?_
      refine at_in_norm ?_
      refine at_thn ?_
      refine at_reg [] [0, 3, 4] (L2 := [(0, .slice A59 p58.length c60), (3, .slice A98 (x64 ++ ([b4] : List (List Int))).length c99), (4, .int .i64 (IntKind.i64.wrap (x69 + 1)))]) (obs := []) (by kernel_rfl) ?_ ?_
      · intro w hs; exact trivial
      refine at_thn ?_
      refine at_drop (k := 0) rfl rfl ?_
      refine at_keep [0, 3, 4] (L2 := [(0, .slice A59 p58.length c60), (3, .slice A98 (x64 ++ ([b4] : List (List Int))).length c99), (4, .int .i64 (IntKind.i64.wrap (x69 + 1)))]) rfl ?_
      exact ih71 _ (by omega) _ _ _ ⟨(x64 ++ ([b4] : List (List Int))), A98, c99, s100, IntKind.i64.wrap (x69 + 1), rfl, rfl, H, hle, by omega, ho101, hr61⟩
    · rw [if_neg h73] at H
      refine at_cond_f rfl (decide_eq_false h73) ?_
      refine at_exit ?_
      refine at_then_exit ?_
      refine at_then_exit ?_
      refine at_in_hit ?_
      refine at_thn ?_
      refine at_seq ?_
      refine at_reg [] [2] (L2 := [(2, .slice A65 x64.length c66)]) (obs := []) (by kernel_rfl) ?_ ?_
      · intro w hs; exact trivial
      refine at_thn ?_
      refine at_ret ?_
      obtain rfl := Option.some.inj H
      refine at_done (vs := [.slice A65 x64.length c66]) (obs := []) (.inl rfl) [.tmp 2] [] rfl (by kernel_rfl) (fun w hs => trivial) (fun w hs => ⟨_, _, [s67], rfl, ⟨A65, c66, s67, rfl, rfl, ho68⟩, hle, hs⟩)

/-! ### loop.example/g00146/spec.l04Copy: function 42 -/
def spec_l04Copy (k : Nat) (p52 : T_impl_Ring) : Option T_impl_Ring := (spec_l04CopyAll k p52.Items).bind fun b4 => (some (⟨b4, p52.At⟩ : T_impl_Ring))
set_option maxHeartbeats 4000000 in
set_option maxRecDepth 100000 in
theorem spec_l04Copy.calls {k : Nat} {p52 : T_impl_Ring} {r : T_impl_Ring} {I0 : Imm} {A53 : Option Addr} {c54 : Nat} (H : spec_l04Copy k p52 = some r) (hr55 : Rd (Kd.slice (Kd.int .i64)) I0 A53 c54 p52.Items) :
    Meets Try.prog 42 ([.agg #[.slice A53 p52.Items.length c54, .int .i64 p52.At]] : List Value).toArray I0 [] (fun v J M => ∃ (A_1 : Option Addr) (c_2 : Nat) (s_3 : Seg), v = .agg #[.slice A_1 r.Items.length c_2, .int .i64 r.At] ∧ M = [s_3] ∧ Own (Kd.slice (Kd.int .i64)) 23 J A_1 c_2 r.Items s_3) := by
  have hle := ImmLe.refl I0
  unfold spec_l04Copy at H
  refine fn_intro (fn := Try.f42) 9 Try.func42 rfl rfl rfl (fun E Fs => ?_)
  refine at_seq ?_
  refine at_ops [0, 1] rfl ?_
  refine at_eff rfl rfl ?_
  refine eff_box rfl rfl rfl #[.slice A53 p52.Items.length c54, .int .i64 p52.At] rfl (fun g56 => ?_)
  refine at_eff rfl rfl ?_
  obtain ⟨i_, hi_, hz_, _, _⟩ := info38
  refine eff_alloc rfl rfl hi_ hz_ #[.slice none ([] : List (List Int)).length 0, .int .i64 0] rfl (fun g57 => ?_)
  refine at_end ?_
  refine at_thn ?_
  refine at_seq ?_
  refine at_x hmo (fun w => w.cell? ⟨g56, 0, none⟩ = some (.slice A53 p52.Items.length c54) ∧ w.cell? ⟨g56, 1, none⟩ = some (.int .i64 p52.At)) [6] ?_
  refine at_xseg [0, 1, 3, 4] 3 (#[true, true, false, true, true, false, false]) rfl (by kernel_rfl) [(1, .slice A53 p52.Items.length c54), (4, .int .i64 p52.At)] [2, 4, 7] (L2 := [(2, .pointer (some ⟨g57, 0, none⟩)), (4, .slice A53 p52.Items.length c54), (7, .int .i64 p52.At)]) (obs := [fun w => w.cell? ⟨g56, 0, none⟩ = some (.slice A53 p52.Items.length c54), fun w => w.cell? ⟨g56, 1, none⟩ = some (.int .i64 p52.At)]) (by kernel_rfl) (by kernel_rfl) (by kernel_rfl) (.inr fun w hs => ⟨hs.var (k := 1) rfl 0 rfl, hs.var (k := 1) rfl 1 rfl⟩) (fun w hS => ⟨hS.1, hS.2⟩) (fun w hs => ⟨hs.var (k := 1) rfl 0 rfl, hs.var (k := 1) rfl 1 rfl⟩) ?_
  refine at_x1 2 2 (#[true, true, true, true, true, false, false]) rfl (by kernel_rfl) (by kernel_rfl) rfl rfl ?_
  obtain ⟨b4, H58, H⟩ := bind_some H
  have hm_ := spec_l04CopyAll.calls (I0 := I0) H58 hr55
  refine eff_call rfl rfl ok44 rfl rfl (show Meets Try.prog 44 ([.slice A53 p52.Items.length c54] : List Value).toArray _ [] _ from hm_) (Mr := ([(g57, .cells #[.slice none ([] : List (List Int)).length 0, .int .i64 0] 38 (0, 0))] :: [(g56, .cells #[.slice A53 p52.Items.length c54, .int .i64 p52.At] 38 (0, 0))] :: Fs)) (List.Perm.refl _) (fun v59 J60 M61 hq62 hJ63 => ?_)
  replace hle := hle.trans hJ63
  replace hr55 := hr55.mono hJ63
  obtain ⟨A64, c65, s66, rfl, rfl, ho67⟩ := hq62
  refine at_xS (fun w hs => ⟨hs.var (k := 2) rfl 0 rfl, hs.var (k := 2) rfl 1 rfl⟩) ?_
  refine at_xseg [5] 1 (#[true, true, true, true, true, true, false]) rfl (by kernel_rfl) [] [2, 8] (L2 := [(2, .pointer (some ⟨g57, 0, none⟩)), (8, .agg #[.slice A64 b4.length c65, .int .i64 p52.At])]) (obs := []) (by kernel_rfl) (by kernel_rfl) (by kernel_rfl) (.inr fun w hs => ⟨hs.var (k := 2) rfl 0 rfl, hs.var (k := 2) rfl 1 rfl⟩) (fun w hS => trivial) (fun w hs => trivial) ?_
  refine at_x1 0 6 (#[true, true, true, true, true, true, true]) rfl (by kernel_rfl) (by kernel_rfl) rfl rfl ?_
  refine eff_store 1 rfl rfl rfl rfl rfl rfl (.inl (Nat.le_refl _)) rfl (Nat.le_of_ble_eq_true (by kernel_rfl)) rfl ?_
  refine at_xX (by kernel_rfl) ?_
  refine at_xend (by kernel_rfl) ?_
  refine at_thn ?_
  refine at_ret ?_
  obtain rfl := Option.some.inj H
  refine at_drop (k := 2) rfl rfl ?_
  refine at_done (vs := [.agg #[.slice A64 b4.length c65, .int .i64 p52.At]]) (obs := [fun w => CellsAt w ⟨g57, 0, none⟩ [.slice A64 b4.length c65, .int .i64 p52.At] 0]) (.inl rfl) [.cell 2 38] [(2, .agg #[.slice A64 b4.length c65, .int .i64 p52.At])] rfl (by kernel_rfl) (fun w hs => cellsV (k := 1) hs rfl _ 0 (Nat.le_of_ble_eq_true (by kernel_rfl)) rfl) (fun w hs => ⟨_, _, [s66], rfl, ⟨A64, c65, s66, rfl, rfl, ho67⟩, hle, (hs.tail (perm_at (k := 1) rfl))⟩)
end Go.Proofs.Ytocfakbgefdgkaa
