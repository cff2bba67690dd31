import Derived.Test.YtabdhegmepaeiaaG0
namespace Go.Proofs.Ytabdhegmepaeiaa
open Go Eng
set_option linter.unusedVariables false
set_option linter.unusedSimpArgs false
/-! ### loop.example/g00146/laws.szInt64S: function 50 -/
def laws_szInt64S (p31 : List Int) (p35 : Int) : Option Int := if (IntKind.i64.wrap (p35 - (p31.length : Int))) < 0 then (some (-1)) else (some (IntKind.i64.wrap (p35 - (p31.length : Int))))
set_option maxHeartbeats 4000000 in
set_option maxRecDepth 100000 in
theorem laws_szInt64S.calls {p31 : List Int} {p35 : Int} {r : Int} {I0 : Imm} {A32 : Option Addr} {c33 : Nat} (H : laws_szInt64S p31 p35 = some r) (hr34 : Rd (Kd.int .i64) I0 A32 c33 p31) :
    Meets Try.prog 50 ([.slice A32 p31.length c33, .int .i64 p35] : List Value).toArray I0 [] (fun v J M => v = .int .i64 r ∧ M = []) := by
  have hle := ImmLe.refl I0
  unfold laws_szInt64S at H
  refine fn_intro (fn := Try.f50) 12 Try.func50 rfl rfl rfl (fun E Fs => ?_)
  refine at_seq ?_
  refine at_reg [] [0, 1] (L2 := [(0, .slice A32 p31.length c33), (1, .int .i64 p35)]) (obs := []) (by kernel_rfl) ?_ ?_
  · intro w hs; exact trivial
  refine at_thn ?_
  refine at_seq ?_
  refine at_reg [] [1] (L2 := [(1, .int .i64 (IntKind.i64.wrap (p35 - (p31.length : Int))))]) (obs := []) (by kernel_rfl) ?_ ?_
  · intro w hs; exact trivial
  refine at_thn ?_
  refine at_seq ?_
  refine at_seq ?_
  refine at_reg [] [1, 10] (L2 := [(1, .int .i64 (IntKind.i64.wrap (p35 - (p31.length : Int)))), (10, .bool (decide ((IntKind.i64.wrap (p35 - (p31.length : Int))) < 0)))]) (obs := []) (by kernel_rfl) ?_ ?_
  · intro w hs; exact trivial
  refine at_thn ?_
  by_cases h36 : (IntKind.i64.wrap (p35 - (p31.length : Int))) < 0
  · rw [if_pos h36] at H
    refine at_cond_t rfl (decide_eq_true h36) ?_
    refine at_seq ?_
    refine at_reg [] [4] (L2 := [(4, .int .i64 (-1))]) (obs := []) (by kernel_rfl) ?_ ?_
    · intro w hs; exact trivial
    refine at_thn ?_
    refine at_ret ?_
    refine at_then_ret ?_
    obtain rfl := Option.some.inj H
    refine at_done (vs := [.int .i64 (-1)]) (obs := []) (.inl rfl) [.tmp 4] [] rfl (by kernel_rfl) (fun w hs => trivial) (fun w hs => ⟨_, _, [], rfl, ⟨rfl, rfl⟩, hle, hs⟩)
  · rw [if_neg h36] at H
    refine at_cond_f rfl (decide_eq_false h36) ?_
    refine at_skip ?_
    refine at_thn ?_
    refine at_seq ?_
    refine at_reg [] [4] (L2 := [(4, .int .i64 (IntKind.i64.wrap (p35 - (p31.length : Int))))]) (obs := []) (by kernel_rfl) ?_ ?_
    · intro w hs; exact trivial
    refine at_thn ?_
    refine at_ret ?_
    obtain rfl := Option.some.inj H
    refine at_done (vs := [.int .i64 (IntKind.i64.wrap (p35 - (p31.length : Int)))]) (obs := []) (.inl rfl) [.tmp 4] [] rfl (by kernel_rfl) (fun w hs => trivial) (fun w hs => ⟨_, _, [], rfl, ⟨rfl, rfl⟩, hle, hs⟩)

/-! ### loop.example/g00146/laws.szInt64SS: function 27 -/
def laws_szInt64SS_l0 : Nat → Int → Int → (List (List Int)) → Option Int
  | 0, _, _, _ => none
  | k + 1, x23, x24, p17 => if x24 < (p17.length : Int) then (if 0 ≤ x24 then ((laws_szInt64S (rdA [] p17 x24) x23).bind fun b1 => (if b1 < 0 then (some (-1)) else (laws_szInt64SS_l0 k b1 (IntKind.i64.wrap (x24 + 1)) p17))) else none) else (some x23)
def laws_szInt64SS (k : Nat) (p17 : List (List Int)) (p21 : Int) : Option Int := if (IntKind.i64.wrap (p21 - (p17.length : Int))) < 0 then (some (-1)) else (laws_szInt64SS_l0 k (IntKind.i64.wrap (p21 - (p17.length : Int))) 0 p17)
set_option maxHeartbeats 4000000 in
set_option maxRecDepth 100000 in
theorem laws_szInt64SS.calls {k : Nat} {p17 : List (List Int)} {p21 : Int} {r : Int} {I0 : Imm} {A18 : Option Addr} {c19 : Nat} (H : laws_szInt64SS k p17 p21 = some r) (hr20 : Rd (Kd.slice (Kd.int .i64)) I0 A18 c19 p17) :
    Meets Try.prog 27 ([.slice A18 p17.length c19, .int .i64 p21] : List Value).toArray I0 [] (fun v J M => v = .int .i64 r ∧ M = []) := by
  have hle := ImmLe.refl I0
  unfold laws_szInt64SS at H
  refine fn_intro (fn := Try.f27) 27 Try.func27 rfl rfl rfl (fun E Fs => ?_)
  refine at_seq ?_
  refine at_reg [] [0, 1] (L2 := [(0, .slice A18 p17.length c19), (1, .int .i64 p21)]) (obs := []) (by kernel_rfl) ?_ ?_
  · intro w hs; exact trivial
  refine at_thn ?_
  refine at_seq ?_
  refine at_reg [] [0, 1] (L2 := [(0, .slice A18 p17.length c19), (1, .int .i64 (IntKind.i64.wrap (p21 - (p17.length : Int))))]) (obs := []) (by kernel_rfl) ?_ ?_
  · intro w hs; exact trivial
  refine at_thn ?_
  refine at_seq ?_
  refine at_seq ?_
  refine at_reg [] [0, 1, 11] (L2 := [(0, .slice A18 p17.length c19), (1, .int .i64 (IntKind.i64.wrap (p21 - (p17.length : Int)))), (11, .bool (decide ((IntKind.i64.wrap (p21 - (p17.length : Int))) < 0)))]) (obs := []) (by kernel_rfl) ?_ ?_
  · intro w hs; exact trivial
  refine at_thn ?_
  by_cases h22 : (IntKind.i64.wrap (p21 - (p17.length : Int))) < 0
  · rw [if_pos h22] at H
    refine at_cond_t rfl (decide_eq_true h22) ?_
    refine at_seq ?_
    refine at_reg [] [4] (L2 := [(4, .int .i64 (-1))]) (obs := []) (by kernel_rfl) ?_ ?_
    · intro w hs; exact trivial
    refine at_thn ?_
    refine at_ret ?_
    refine at_then_ret ?_
    obtain rfl := Option.some.inj H
    refine at_done (vs := [.int .i64 (-1)]) (obs := []) (.inl rfl) [.tmp 4] [] rfl (by kernel_rfl) (fun w hs => trivial) (fun w hs => ⟨_, _, [], rfl, ⟨rfl, rfl⟩, hle, hs⟩)
  · rw [if_neg h22] at H
    refine at_cond_f rfl (decide_eq_false h22) ?_
    refine at_skip ?_
    refine at_thn ?_
    refine at_seq ?_
    refine at_seq ?_
    refine at_reg [] [0, 1, 5] (L2 := [(0, .slice A18 p17.length c19), (1, .int .i64 (IntKind.i64.wrap (p21 - (p17.length : Int)))), (5, .int .i64 0)]) (obs := []) (by kernel_rfl) ?_ ?_
    · intro w hs; exact trivial
    refine at_thn ?_
    refine at_block ?_
    refine at_keep [0, 1, 5] (L2 := [(0, .slice A18 p17.length c19), (1, .int .i64 (IntKind.i64.wrap (p21 - (p17.length : Int)))), (5, .int .i64 0)]) rfl ?_
    refine at_loop (fun k25 L I Ms => ∃ (x23 : Int) (x24 : Int), L = [(0, .slice A18 p17.length c19), (1, .int .i64 x23), (5, .int .i64 x24)] ∧ Ms = ([] ++ Fs) ∧ laws_szInt64SS_l0 k25 x23 x24 p17 = some r ∧ ImmLe I0 I ∧ k25 ≤ k ∧ Rd (Kd.slice (Kd.int .i64)) I A18 c19 p17) ?_ ?_ k ⟨IntKind.i64.wrap (p21 - (p17.length : Int)), 0, rfl, rfl, H, hle, Nat.le_refl _, hr20⟩
    · rintro L I Ms ⟨_, _, rfl, rfl, H, _⟩; exact no_none H
    · clear H hle hr20
      intro k25 ih26 L I Ms h_; obtain ⟨x23, x24, hL_, hM_, H, hle, hk27, hr20⟩ := h_; rw [hL_, hM_]; clear hL_ hM_ L Ms
      rw [laws_szInt64SS_l0] at H
      refine at_seq ?_
      refine at_seq ?_
      refine at_reg [] [0, 1, 5, 15] (L2 := [(0, .slice A18 p17.length c19), (1, .int .i64 x23), (5, .int .i64 x24), (15, .bool (decide (x24 < (p17.length : Int))))]) (obs := []) (by kernel_rfl) ?_ ?_
      · intro w hs; exact trivial
      refine at_thn ?_
      by_cases h28 : x24 < (p17.length : Int)
      · rw [if_pos h28] at H
        refine at_cond_t rfl (decide_eq_true h28) ?_
        refine at_skip ?_
        refine at_thn ?_
        refine at_seq ?_
        refine at_block ?_
        refine at_seq ?_
        refine at_ops [0, 1, 2, 3, 4, 5, 6] rfl ?_
        obtain ⟨h29, H⟩ := ite_some H
        obtain ⟨cs34, hz35, hc30⟩ := hr20.elem [] x24 h29 h28
        obtain ⟨A31, c32, rfl, hr33⟩ := hz35
        refine at_seg [0, 1, 2, 3, 4] [5, 6] rfl [(3, .slice A31 (rdA [] p17 x24).length c32)] [0, 1, 5, 21, 22] (L2 := [(0, .slice A18 p17.length c19), (1, .int .i64 x23), (5, .int .i64 x24), (21, .slice A31 (rdA [] p17 x24).length c32), (22, .int .i64 x23)]) (obs := [fun _ => A18.isSome = true ∧ 0 ≤ x24 ∧ x24 < ((p17.length : Nat) : Int), fun w => w.cell? ((A18.getD ad0).add (x24.toNat * 1)) = some (.slice A31 (rdA [] p17 x24).length c32)]) (by kernel_rfl) ?_ ?_
        · intro w hs; exact ⟨⟨hr20.ne x24 h29 h28, h29, h28⟩, cell0 (hc30 0 _ rfl hs)⟩
        refine at_eff rfl rfl ?_
        obtain ⟨b1, H36, H⟩ := bind_some H
        have hm_ := laws_szInt64S.calls (I0 := I) H36 hr33
        refine eff_call rfl rfl ok50 rfl rfl (show Meets Try.prog 50 ([.slice A31 (rdA [] p17 x24).length c32, .int .i64 x23] : List Value).toArray _ [] _ from hm_) (Mr := (Fs)) (List.Perm.refl _) (fun v37 J38 M39 hq40 hJ41 => ?_)
        replace hle := hle.trans hJ41
        replace hr20 := hr20.mono hJ41
        replace hr33 := hr33.mono hJ41
        obtain ⟨rfl, rfl⟩ := hq40
        refine at_seg [6] [] rfl [] [0, 1, 5] (L2 := [(0, .slice A18 p17.length c19), (1, .int .i64 b1), (5, .int .i64 x24)]) (obs := []) (by kernel_rfl) ?_ ?_
        · intro w hs; exact trivial
        refine at_end ?_
        refine at_thn ?_
        refine at_seq ?_
        refine at_reg [] [0, 1, 5, 25] (L2 := [(0, .slice A18 p17.length c19), (1, .int .i64 b1), (5, .int .i64 x24), (25, .bool (decide (b1 < 0)))]) (obs := []) (by kernel_rfl) ?_ ?_
        · intro w hs; exact trivial
        refine at_thn ?_
        by_cases h42 : b1 < 0
        · rw [if_pos h42] at H
          refine at_cond_t rfl (decide_eq_true h42) ?_
          refine at_seq ?_
          refine at_reg [] [4] (L2 := [(4, .int .i64 (-1))]) (obs := []) (by kernel_rfl) ?_ ?_
          · intro w hs; exact trivial
          refine at_thn ?_
          refine at_ret ?_
          refine at_in_ret ?_
          refine at_then_ret ?_
          refine at_then_ret ?_
          refine at_in_ret ?_
          refine at_then_ret ?_
          obtain rfl := Option.some.inj H
          refine at_done (vs := [.int .i64 (-1)]) (obs := []) (.inl rfl) [.tmp 4] [] rfl (by kernel_rfl) (fun w hs => trivial) (fun w hs => ⟨_, _, [], rfl, ⟨rfl, rfl⟩, hle, hs⟩)
        · rw [if_neg h42] at H
          refine at_cond_f rfl (decide_eq_false h42) ?_
          refine at_skip ?_
          refine at_in_norm ?_
          refine at_thn ?_
          refine at_reg [] [0, 1, 5] (L2 := [(0, .slice A18 p17.length c19), (1, .int .i64 b1), (5, .int .i64 (IntKind.i64.wrap (x24 + 1)))]) (obs := []) (by kernel_rfl) ?_ ?_
          · intro w hs; exact trivial
          refine at_thn ?_
          refine at_keep [0, 1, 5] (L2 := [(0, .slice A18 p17.length c19), (1, .int .i64 b1), (5, .int .i64 (IntKind.i64.wrap (x24 + 1)))]) rfl ?_
          exact ih26 _ (by omega) _ _ _ ⟨b1, IntKind.i64.wrap (x24 + 1), rfl, rfl, H, hle, by omega, hr20⟩
      · rw [if_neg h28] at H
        refine at_cond_f rfl (decide_eq_false h28) ?_
        refine at_exit ?_
        refine at_then_exit ?_
        refine at_then_exit ?_
        refine at_in_hit ?_
        refine at_thn ?_
        refine at_seq ?_
        refine at_reg [] [4] (L2 := [(4, .int .i64 x23)]) (obs := []) (by kernel_rfl) ?_ ?_
        · intro w hs; exact trivial
        refine at_thn ?_
        refine at_ret ?_
        obtain rfl := Option.some.inj H
        refine at_done (vs := [.int .i64 x23]) (obs := []) (.inl rfl) [.tmp 4] [] rfl (by kernel_rfl) (fun w hs => trivial) (fun w hs => ⟨_, _, [], rfl, ⟨rfl, rfl⟩, hle, hs⟩)

/-! ### loop.example/g00146/laws.szRing: function 6 -/
def laws_szRing (k : Nat) (p11 : T_laws_Ring) (p15 : Int) : Option Int := (laws_szInt64SS k p11.Items p15).bind fun b1 => (if b1 < 0 then (some (-1)) else (some b1))
set_option maxHeartbeats 4000000 in
set_option maxRecDepth 100000 in
theorem laws_szRing.calls {k : Nat} {p11 : T_laws_Ring} {p15 : Int} {r : Int} {I0 : Imm} {A12 : Option Addr} {c13 : Nat} (H : laws_szRing k p11 p15 = some r) (hr14 : Rd (Kd.slice (Kd.int .i64)) I0 A12 c13 p11.Items) :
    Meets Try.prog 6 ([.agg #[.slice A12 p11.Items.length c13, .int .i64 p11.At], .int .i64 p15] : List Value).toArray I0 [] (fun v J M => v = .int .i64 r ∧ M = []) := by
  have hle := ImmLe.refl I0
  unfold laws_szRing at H
  refine fn_intro (fn := Try.f6) 12 Try.func6 rfl rfl rfl (fun E Fs => ?_)
  refine at_seq ?_
  refine at_ops [0, 1] rfl ?_
  refine at_eff rfl rfl ?_
  refine eff_box rfl rfl rfl #[.slice A12 p11.Items.length c13, .int .i64 p11.At] rfl (fun g16 => ?_)
  refine at_seg [1] [] rfl [] [1, 2] (L2 := [(1, .int .i64 p15), (2, .pointer (some ⟨g16, 0, none⟩))]) (obs := []) (by kernel_rfl) ?_ ?_
  · intro w hs; exact trivial
  refine at_end ?_
  refine at_thn ?_
  refine at_seq ?_
  refine at_ops [0, 1, 2, 3, 4] rfl ?_
  refine at_seg [0, 1, 2] [3, 4] rfl [(1, .slice A12 p11.Items.length c13)] [1, 6, 7] (L2 := [(1, .int .i64 p15), (6, .slice A12 p11.Items.length c13), (7, .int .i64 p15)]) (obs := [fun w => w.cell? ⟨g16, 0, none⟩ = some (.slice A12 p11.Items.length c13)]) (by kernel_rfl) ?_ ?_
  · intro w hs; exact hs.var (k := 0) rfl 0 rfl
  refine at_eff rfl rfl ?_
  obtain ⟨b1, H17, H⟩ := bind_some H
  have hm_ := laws_szInt64SS.calls (I0 := I0) H17 hr14
  refine eff_call rfl rfl ok27 rfl rfl (show Meets Try.prog 27 ([.slice A12 p11.Items.length c13, .int .i64 p15] : List Value).toArray _ [] _ from hm_) (Mr := ([(g16, .cells #[.slice A12 p11.Items.length c13, .int .i64 p11.At] 24 (0, 0))] :: Fs)) (List.Perm.refl _) (fun v18 J19 M20 hq21 hJ22 => ?_)
  replace hle := hle.trans hJ22
  replace hr14 := hr14.mono hJ22
  obtain ⟨rfl, rfl⟩ := hq21
  refine at_seg [4] [] rfl [] [1] (L2 := [(1, .int .i64 b1)]) (obs := []) (by kernel_rfl) ?_ ?_
  · intro w hs; exact trivial
  refine at_end ?_
  refine at_thn ?_
  refine at_seq ?_
  refine at_seq ?_
  refine at_reg [] [1, 10] (L2 := [(1, .int .i64 b1), (10, .bool (decide (b1 < 0)))]) (obs := []) (by kernel_rfl) ?_ ?_
  · intro w hs; exact trivial
  refine at_thn ?_
  by_cases h23 : b1 < 0
  · rw [if_pos h23] at H
    refine at_cond_t rfl (decide_eq_true h23) ?_
    refine at_seq ?_
    refine at_reg [] [4] (L2 := [(4, .int .i64 (-1))]) (obs := []) (by kernel_rfl) ?_ ?_
    · intro w hs; exact trivial
    refine at_thn ?_
    refine at_ret ?_
    refine at_then_ret ?_
    obtain rfl := Option.some.inj H
    refine at_drop (k := 0) rfl rfl ?_
    refine at_done (vs := [.int .i64 (-1)]) (obs := []) (.inl rfl) [.tmp 4] [] rfl (by kernel_rfl) (fun w hs => trivial) (fun w hs => ⟨_, _, [], rfl, ⟨rfl, rfl⟩, hle, hs⟩)
  · rw [if_neg h23] at H
    refine at_cond_f rfl (decide_eq_false h23) ?_
    refine at_skip ?_
    refine at_thn ?_
    refine at_seq ?_
    refine at_reg [] [4] (L2 := [(4, .int .i64 b1)]) (obs := []) (by kernel_rfl) ?_ ?_
    · intro w hs; exact trivial
    refine at_thn ?_
    refine at_ret ?_
    obtain rfl := Option.some.inj H
    refine at_drop (k := 0) rfl rfl ?_
    refine at_done (vs := [.int .i64 b1]) (obs := []) (.inl rfl) [.tmp 4] [] rfl (by kernel_rfl) (fun w hs => trivial) (fun w hs => ⟨_, _, [], rfl, ⟨rfl, rfl⟩, hle, hs⟩)

/-! ### loop.example/g00146/laws.toInt64S: function 9 -/
def laws_toInt64S_l0 : Nat → (List Int) → Int → (List Int) → Option (List Int)
  | 0, _, _, _ => none
  | k + 1, x51, x56, p42 => if x56 < (p42.length : Int) then (if 0 ≤ x56 then (if x56 < (x51.length : Int) then (laws_toInt64S_l0 k (x51.set x56.toNat (rdA 0 p42 x56)) (IntKind.i64.wrap (x56 + 1)) p42) else none) else none) else (some x51)
def laws_toInt64S (k : Nat) (p42 : List Int) : Option (List Int) := if 0 ≤ (p42.length : Int) then (if (p42.length : Int) ≤ 35184372088832 then (laws_toInt64S_l0 k (List.replicate (p42.length : Int).toNat 0 : List Int) 0 p42) else none) else none
set_option maxHeartbeats 4000000 in
set_option maxRecDepth 100000 in
theorem laws_toInt64S.calls {k : Nat} {p42 : List Int} {r : (List Int)} {I0 : Imm} {A43 : Option Addr} {c44 : Nat} (H : laws_toInt64S k p42 = some r) (hr45 : Rd (Kd.int .i64) I0 A43 c44 p42) :
    Meets Try.prog 9 ([.slice A43 p42.length c44] : List Value).toArray I0 [] (fun v J M => ∃ (A_1 : Option Addr) (c_2 : Nat) (s_3 : Seg), v = .slice A_1 r.length c_2 ∧ M = [s_3] ∧ Own (Kd.int .i64) 2 J A_1 c_2 r s_3) := by
  have hle := ImmLe.refl I0
  unfold laws_toInt64S at H
  refine fn_intro (fn := Try.f9) 22 Try.func9 rfl rfl rfl (fun E Fs => ?_)
  refine at_seq ?_
  refine at_reg [] [0] (L2 := [(0, .slice A43 p42.length c44)]) (obs := []) (by kernel_rfl) ?_ ?_
  · intro w hs; exact trivial
  refine at_thn ?_
  refine at_seq ?_
  refine at_ops [0, 1, 2, 3] rfl ?_
  refine at_seg [0, 1] [2, 3] rfl [] [0, 6] (L2 := [(0, .slice A43 p42.length c44), (6, .int .i64 (p42.length : Int))]) (obs := []) (by kernel_rfl) ?_ ?_
  · intro w hs; exact trivial
  refine at_eff rfl rfl ?_
  obtain ⟨h46, H⟩ := ite_some H
  obtain ⟨h47, H⟩ := ite_some H
  obtain ⟨i_, hi_, hz_, hs_, hb_⟩ := info2
  refine eff_makeSlice (K := (Kd.int .i64)) (d := 0) rfl rfl rfl rfl und25 hi_ hz_ hs_ (fun _ => rfl) h46 (by rw [hb_]; omega) (by omega) (fun g48 s49 ho50 => ?_)
  refine at_seg [3] [] rfl [] [0, 3] (L2 := [(0, .slice A43 p42.length c44), (3, .slice (some ⟨g48, 0, none⟩ : Option Addr) (List.replicate (p42.length : Int).toNat 0 : List Int).length ((p42.length : Int).toNat))]) (obs := []) (by kernel_rfl) ?_ ?_
  · intro w hs; exact trivial
  refine at_end ?_
  refine at_thn ?_
  refine at_seq ?_
  refine at_seq ?_
  refine at_reg [] [0, 3, 4] (L2 := [(0, .slice A43 p42.length c44), (3, .slice (some ⟨g48, 0, none⟩ : Option Addr) (List.replicate (p42.length : Int).toNat 0 : List Int).length ((p42.length : Int).toNat)), (4, .int .i64 0)]) (obs := []) (by kernel_rfl) ?_ ?_
  · intro w hs; exact trivial
  refine at_thn ?_
  refine at_block ?_
  refine at_keep [0, 3, 4] (L2 := [(0, .slice A43 p42.length c44), (3, .slice (some ⟨g48, 0, none⟩ : Option Addr) (List.replicate (p42.length : Int).toNat 0 : List Int).length ((p42.length : Int).toNat)), (4, .int .i64 0)]) rfl ?_
  refine at_loop (fun k57 L I Ms => ∃ (x51 : List Int) (A52 : Option Addr) (c53 : Nat) (s54 : Seg) (x56 : Int), L = [(0, .slice A43 p42.length c44), (3, .slice A52 x51.length c53), (4, .int .i64 x56)] ∧ Ms = (s54 :: Fs) ∧ laws_toInt64S_l0 k57 x51 x56 p42 = some r ∧ ImmLe I0 I ∧ k57 ≤ k ∧ Own (Kd.int .i64) 2 I A52 c53 x51 s54 ∧ Rd (Kd.int .i64) I A43 c44 p42) ?_ ?_ k ⟨(List.replicate (p42.length : Int).toNat 0 : List Int), (some ⟨g48, 0, none⟩ : Option Addr), (p42.length : Int).toNat, s49, 0, rfl, rfl, H, hle, Nat.le_refl _, ho50, hr45⟩
  · rintro L I Ms ⟨_, _, _, _, _, rfl, rfl, H, _⟩; exact no_none H
  · clear H hle ho50 hr45
    intro k57 ih58 L I Ms h_; obtain ⟨x51, A52, c53, s54, x56, hL_, hM_, H, hle, hk59, ho55, hr45⟩ := h_; rw [hL_, hM_]; clear hL_ hM_ L Ms
    rw [laws_toInt64S_l0] at H
    refine at_seq ?_
    refine at_seq ?_
    refine at_reg [] [0, 3, 4, 11] (L2 := [(0, .slice A43 p42.length c44), (3, .slice A52 x51.length c53), (4, .int .i64 x56), (11, .bool (decide (x56 < (p42.length : Int))))]) (obs := []) (by kernel_rfl) ?_ ?_
    · intro w hs; exact trivial
    refine at_thn ?_
    by_cases h60 : x56 < (p42.length : Int)
    · rw [if_pos h60] at H
      refine at_cond_t rfl (decide_eq_true h60) ?_
      refine at_skip ?_
      refine at_thn ?_
      refine at_seq ?_
      refine at_block ?_
      refine at_ops [0, 1, 2, 3, 4, 5, 6, 7] rfl ?_
      obtain ⟨h61, H⟩ := ite_some H
      obtain ⟨h62, H⟩ := ite_some H
      refine at_seg [0, 1, 2, 3, 4, 5, 6] [7] rfl [(5, .int .i64 (rdA 0 p42 x56))] [0, 3, 4, 19, 20] (L2 := [(0, .slice A43 p42.length c44), (3, .slice A52 x51.length c53), (4, .int .i64 x56), (19, .int .i64 (rdA 0 p42 x56)), (20, .pointer (some ((A52.getD ad0).add (x56.toNat * 1))))]) (obs := [fun _ => A43.isSome = true ∧ 0 ≤ x56 ∧ x56 < ((p42.length : Nat) : Int), fun w => w.cell? ((A43.getD ad0).add (x56.toNat * 1)) = some (.int .i64 (rdA 0 p42 x56)), fun _ => A52.isSome = true ∧ 0 ≤ x56 ∧ x56 < ((x51.length : Nat) : Int)]) (by kernel_rfl) ?_ ?_
      · intro w hs; exact ⟨⟨hr45.ne x56 h61 h60, h61, h60⟩, hr45.one 0 x56 h61 h60 hs, ⟨ho55.ne x56 h61 h62, h61, h62⟩⟩
      refine at_eff rfl rfl ?_
      refine eff_storeOwn (K := (Kd.int .i64)) (u := rdA 0 p42 x56) 0 0 0 x56 rfl rfl rfl rfl ho55 rfl h61 h62 (add0 _).symm rfl (Nat.le_of_ble_eq_true (by kernel_rfl)) rfl (by rintro cs_ rfl; rfl) (fun s63 ho64 => ?_)
      refine at_eqL2 (L1 := [(0, .slice A43 p42.length c44), (3, .slice A52 x51.length c53), (4, .int .i64 x56), (19, .int .i64 (rdA 0 p42 x56)), (20, .pointer (some ((A52.getD ad0).add (x56.toNat * 1))))]) (L2 := [(0, .slice A43 p42.length c44), (3, .slice A52 (x51.set x56.toNat (rdA 0 p42 x56)).length c53), (4, .int .i64 x56), (19, .int .i64 (rdA 0 p42 x56)), (20, .pointer (some ((A52.getD ad0).add (x56.toNat * 1))))]) rfl (by simp only [List.length_set]) ?_
      refine at_end ?_
      refine at_in_norm ?_
      refine at_thn ?_
      refine at_reg [] [0, 3, 4] (L2 := [(0, .slice A43 p42.length c44), (3, .slice A52 (x51.set x56.toNat (rdA 0 p42 x56)).length c53), (4, .int .i64 (IntKind.i64.wrap (x56 + 1)))]) (obs := []) (by kernel_rfl) ?_ ?_
      · intro w hs; exact trivial
      refine at_thn ?_
      refine at_keep [0, 3, 4] (L2 := [(0, .slice A43 p42.length c44), (3, .slice A52 (x51.set x56.toNat (rdA 0 p42 x56)).length c53), (4, .int .i64 (IntKind.i64.wrap (x56 + 1)))]) rfl ?_
      exact ih58 _ (by omega) _ _ _ ⟨x51.set x56.toNat (rdA 0 p42 x56), A52, c53, s63, IntKind.i64.wrap (x56 + 1), rfl, rfl, H, hle, by omega, ho64, hr45⟩
    · rw [if_neg h60] at H
      refine at_cond_f rfl (decide_eq_false h60) ?_
      refine at_exit ?_
      refine at_then_exit ?_
      refine at_then_exit ?_
      refine at_in_hit ?_
      refine at_thn ?_
      refine at_seq ?_
      refine at_reg [] [2] (L2 := [(2, .slice A52 x51.length c53)]) (obs := []) (by kernel_rfl) ?_ ?_
      · intro w hs; exact trivial
      refine at_thn ?_
      refine at_ret ?_
      obtain rfl := Option.some.inj H
      refine at_done (vs := [.slice A52 x51.length c53]) (obs := []) (.inl rfl) [.tmp 2] [] rfl (by kernel_rfl) (fun w hs => trivial) (fun w hs => ⟨_, _, [s54], rfl, ⟨A52, c53, s54, rfl, rfl, ho55⟩, hle, hs⟩)

/-! ### loop.example/g00146/laws.toInt64SS: function 31 -/
def laws_toInt64SS_l0 : Nat → (List (List Int)) → Int → (List (List Int)) → Option (List (List Int))
  | 0, _, _, _ => none
  | k + 1, x34, x39, p25 => if x39 < (p25.length : Int) then (if 0 ≤ x39 then ((laws_toInt64S k (rdA [] p25 x39)).bind fun b2 => (if x39 < (x34.length : Int) then (laws_toInt64SS_l0 k (x34.set x39.toNat b2) (IntKind.i64.wrap (x39 + 1)) p25) else none)) else none) else (some x34)
def laws_toInt64SS (k : Nat) (p25 : List (List Int)) : Option (List (List Int)) := if 0 ≤ (p25.length : Int) then (if (p25.length : Int) ≤ 11728124029610 then (laws_toInt64SS_l0 k (List.replicate (p25.length : Int).toNat [] : List (List Int)) 0 p25) else none) else none
set_option maxHeartbeats 4000000 in
set_option maxRecDepth 100000 in
theorem laws_toInt64SS.calls {k : Nat} {p25 : List (List Int)} {r : (List (List Int))} {I0 : Imm} {A26 : Option Addr} {c27 : Nat} (H : laws_toInt64SS k p25 = some r) (hr28 : Rd (Kd.slice (Kd.int .i64)) I0 A26 c27 p25) :
    Meets Try.prog 31 ([.slice A26 p25.length c27] : List Value).toArray I0 [] (fun v J M => ∃ (A_1 : Option Addr) (c_2 : Nat) (s_3 : Seg), v = .slice A_1 r.length c_2 ∧ M = [s_3] ∧ DOwn (DK.sl (Kd.int .i64) 2) 25 J A_1 c_2 r s_3) := by
  have hle := ImmLe.refl I0
  unfold laws_toInt64SS at H
  refine fn_intro (fn := Try.f31) 23 Try.func31 rfl rfl rfl (fun E Fs => ?_)
  refine at_seq ?_
  refine at_reg [] [0] (L2 := [(0, .slice A26 p25.length c27)]) (obs := []) (by kernel_rfl) ?_ ?_
  · intro w hs; exact trivial
  refine at_thn ?_
  refine at_seq ?_
  refine at_ops [0, 1, 2, 3] rfl ?_
  refine at_seg [0, 1] [2, 3] rfl [] [0, 6] (L2 := [(0, .slice A26 p25.length c27), (6, .int .i64 (p25.length : Int))]) (obs := []) (by kernel_rfl) ?_ ?_
  · intro w hs; exact trivial
  refine at_eff rfl rfl ?_
  obtain ⟨h29, H⟩ := ite_some H
  obtain ⟨h30, H⟩ := ite_some H
  obtain ⟨i_, hi_, hz_, hs_, hb_⟩ := info25
  refine eff_makeD (D := (DK.sl (Kd.int .i64) 2)) (d := []) rfl rfl rfl rfl und22 hi_ hz_ hs_ rfl rfl h29 (by rw [hb_]; omega) (by omega) (fun g31 s32 ho33 => ?_)
  refine at_seg [3] [] rfl [] [0, 3] (L2 := [(0, .slice A26 p25.length c27), (3, .slice (some ⟨g31, 0, none⟩ : Option Addr) (List.replicate (p25.length : Int).toNat [] : List (List Int)).length ((p25.length : Int).toNat))]) (obs := []) (by kernel_rfl) ?_ ?_
  · intro w hs; exact trivial
  refine at_end ?_
  refine at_thn ?_
  refine at_seq ?_
  refine at_seq ?_
  refine at_reg [] [0, 3, 4] (L2 := [(0, .slice A26 p25.length c27), (3, .slice (some ⟨g31, 0, none⟩ : Option Addr) (List.replicate (p25.length : Int).toNat [] : List (List Int)).length ((p25.length : Int).toNat)), (4, .int .i64 0)]) (obs := []) (by kernel_rfl) ?_ ?_
  · intro w hs; exact trivial
  refine at_thn ?_
  refine at_block ?_
  refine at_keep [0, 3, 4] (L2 := [(0, .slice A26 p25.length c27), (3, .slice (some ⟨g31, 0, none⟩ : Option Addr) (List.replicate (p25.length : Int).toNat [] : List (List Int)).length ((p25.length : Int).toNat)), (4, .int .i64 0)]) rfl ?_
  refine at_loop (fun k40 L I Ms => ∃ (x34 : List (List Int)) (A35 : Option Addr) (c36 : Nat) (s37 : Seg) (x39 : Int), L = [(0, .slice A26 p25.length c27), (3, .slice A35 x34.length c36), (4, .int .i64 x39)] ∧ Ms = (s37 :: Fs) ∧ laws_toInt64SS_l0 k40 x34 x39 p25 = some r ∧ ImmLe I0 I ∧ k40 ≤ k ∧ DOwn (DK.sl (Kd.int .i64) 2) 25 I A35 c36 x34 s37 ∧ Rd (Kd.slice (Kd.int .i64)) I A26 c27 p25) ?_ ?_ k ⟨(List.replicate (p25.length : Int).toNat [] : List (List Int)), (some ⟨g31, 0, none⟩ : Option Addr), (p25.length : Int).toNat, s32, 0, rfl, rfl, H, hle, Nat.le_refl _, ho33, hr28⟩
  · rintro L I Ms ⟨_, _, _, _, _, rfl, rfl, H, _⟩; exact no_none H
  · clear H hle ho33 hr28
    intro k40 ih41 L I Ms h_; obtain ⟨x34, A35, c36, s37, x39, hL_, hM_, H, hle, hk42, ho38, hr28⟩ := h_; rw [hL_, hM_]; clear hL_ hM_ L Ms
    rw [laws_toInt64SS_l0] at H
    refine at_seq ?_
    refine at_seq ?_
    refine at_reg [] [0, 3, 4, 11] (L2 := [(0, .slice A26 p25.length c27), (3, .slice A35 x34.length c36), (4, .int .i64 x39), (11, .bool (decide (x39 < (p25.length : Int))))]) (obs := []) (by kernel_rfl) ?_ ?_
    · intro w hs; exact trivial
    refine at_thn ?_
    by_cases h43 : x39 < (p25.length : Int)
    · rw [if_pos h43] at H
      refine at_cond_t rfl (decide_eq_true h43) ?_
      refine at_skip ?_
      refine at_thn ?_
      refine at_seq ?_
      refine at_block ?_
      refine at_ops [0, 1, 2, 3, 4, 5, 6, 7, 8] rfl ?_
      obtain ⟨h44, H⟩ := ite_some H
      obtain ⟨cs49, hz50, hc45⟩ := hr28.elem [] x39 h44 h43
      obtain ⟨A46, c47, rfl, hr48⟩ := hz50
      refine at_seg [0, 1, 2, 3, 4, 5] [6, 7, 8] rfl [(5, .slice A46 (rdA [] p25 x39).length c47)] [0, 3, 4, 14, 15, 19] (L2 := [(0, .slice A26 p25.length c27), (3, .slice A35 x34.length c36), (4, .int .i64 x39), (14, .slice A35 x34.length c36), (15, .int .i64 x39), (19, .slice A46 (rdA [] p25 x39).length c47)]) (obs := [fun _ => A26.isSome = true ∧ 0 ≤ x39 ∧ x39 < ((p25.length : Nat) : Int), fun w => w.cell? ((A26.getD ad0).add (x39.toNat * 1)) = some (.slice A46 (rdA [] p25 x39).length c47)]) (by kernel_rfl) ?_ ?_
      · intro w hs; exact ⟨⟨hr28.ne x39 h44 h43, h44, h43⟩, cell0 (hc45 0 _ rfl hs)⟩
      refine at_eff rfl rfl ?_
      obtain ⟨b2, H51, H⟩ := bind_some H
      have hm_ := laws_toInt64S.calls (I0 := I) H51 hr48
      refine eff_call rfl rfl ok9 rfl rfl (show Meets Try.prog 9 ([.slice A46 (rdA [] p25 x39).length c47] : List Value).toArray _ [] _ from hm_) (Mr := (s37 :: Fs)) (List.Perm.refl _) (fun v52 J53 M54 hq55 hJ56 => ?_)
      replace hle := hle.trans hJ56
      replace ho38 := ho38.mono hJ56
      replace hr28 := hr28.mono hJ56
      replace hr48 := hr48.mono hJ56
      obtain ⟨A57, c58, s59, rfl, rfl, ho60⟩ := hq55
      obtain ⟨h61, H⟩ := ite_some H
      refine at_seg [7] [8] rfl [] [0, 3, 4, 20, 21] (L2 := [(0, .slice A26 p25.length c27), (3, .slice A35 x34.length c36), (4, .int .i64 x39), (20, .slice A57 b2.length c58), (21, .pointer (some ((A35.getD ad0).add (x39.toNat * 1))))]) (obs := [fun _ => A35.isSome = true ∧ 0 ≤ x39 ∧ x39 < ((x34.length : Nat) : Int)]) (by kernel_rfl) ?_ ?_
      · intro w hs; exact ⟨ho38.ne x39 h44 h61, h44, h61⟩
      refine at_eff rfl rfl ?_
      refine eff_storeDrow (D := (DK.sl (Kd.int .i64) 2)) (u := b2) (d := []) (i := x39) 0 0 0 rfl rfl rfl rfl ho38 h44 h61 rfl rfl (add0 _).symm rfl (Nat.le_of_ble_eq_true (by kernel_rfl)) rfl (fun _ _ => rfl) ho60 (fun s62 hd63 => ?_)
      have he64 : rdA [] (x34.set x39.toNat b2) x39 = b2 := rdA_set _ _ h44 h61
      have hd65 : DOwn (DK.sl (Kd.int .i64) 2) 25 J53 A35 c36 (x34.set x39.toNat b2) s62 := hd63.own
      have hi66 : OwnIn (Kd.int .i64) 2 J53 A57 c58 b2 s62 := by have h_ := hd63.inn; rw [he64] at h_; exact h_
      refine at_keep [0, 3, 4, 21] (L2 := [(0, .slice A26 p25.length c27), (3, .slice A35 x34.length c36), (4, .int .i64 x39), (21, .pointer (some ((A35.getD ad0).add (x39.toNat * 1))))]) rfl ?_
      refine at_eqL2 (L1 := [(0, .slice A26 p25.length c27), (3, .slice A35 x34.length c36), (4, .int .i64 x39), (21, .pointer (some ((A35.getD ad0).add (x39.toNat * 1))))]) (L2 := [(0, .slice A26 p25.length c27), (3, .slice A35 (x34.set x39.toNat b2).length c36), (4, .int .i64 x39), (21, .pointer (some ((A35.getD ad0).add (x39.toNat * 1))))]) rfl (by simp only [List.length_set]) ?_
      have h67 : x39 < ((x34.set x39.toNat b2).length : Int) := by simp only [List.length_set]; exact h61
      refine at_end ?_
      refine at_in_norm ?_
      refine at_thn ?_
      refine at_reg [] [0, 3, 4] (L2 := [(0, .slice A26 p25.length c27), (3, .slice A35 (x34.set x39.toNat b2).length c36), (4, .int .i64 (IntKind.i64.wrap (x39 + 1)))]) (obs := []) (by kernel_rfl) ?_ ?_
      · intro w hs; exact trivial
      refine at_thn ?_
      refine at_keep [0, 3, 4] (L2 := [(0, .slice A26 p25.length c27), (3, .slice A35 (x34.set x39.toNat b2).length c36), (4, .int .i64 (IntKind.i64.wrap (x39 + 1)))]) rfl ?_
      exact ih41 _ (by omega) _ _ _ ⟨x34.set x39.toNat b2, A35, c36, s62, IntKind.i64.wrap (x39 + 1), rfl, rfl, H, hle, by omega, hd65, hr28⟩
    · rw [if_neg h43] at H
      refine at_cond_f rfl (decide_eq_false h43) ?_
      refine at_exit ?_
      refine at_then_exit ?_
      refine at_then_exit ?_
      refine at_in_hit ?_
      refine at_thn ?_
      refine at_seq ?_
      refine at_reg [] [2] (L2 := [(2, .slice A35 x34.length c36)]) (obs := []) (by kernel_rfl) ?_ ?_
      · intro w hs; exact trivial
      refine at_thn ?_
      refine at_ret ?_
      obtain rfl := Option.some.inj H
      refine at_done (vs := [.slice A35 x34.length c36]) (obs := []) (.inl rfl) [.tmp 2] [] rfl (by kernel_rfl) (fun w hs => trivial) (fun w hs => ⟨_, _, [s37], rfl, ⟨A35, c36, s37, rfl, rfl, ho38⟩, hle, hs⟩)

/-! ### loop.example/g00146/laws.toRing: function 8 -/
def laws_toRing (k : Nat) (p18 : T_laws_Ring) : Option T_impl_Ring := (laws_toInt64SS k p18.Items).bind fun b2 => (some (⟨b2, p18.At⟩ : T_impl_Ring))
set_option maxHeartbeats 4000000 in
set_option maxRecDepth 100000 in
theorem laws_toRing.calls {k : Nat} {p18 : T_laws_Ring} {r : T_impl_Ring} {I0 : Imm} {A19 : Option Addr} {c20 : Nat} (H : laws_toRing k p18 = some r) (hr21 : Rd (Kd.slice (Kd.int .i64)) I0 A19 c20 p18.Items) :
    Meets Try.prog 8 ([.agg #[.slice A19 p18.Items.length c20, .int .i64 p18.At]] : List Value).toArray I0 [] (fun v J M => ∃ (A_1 : Option Addr) (c_2 : Nat) (s_3 : Seg), v = .agg #[.slice A_1 r.Items.length c_2, .int .i64 r.At] ∧ M = [s_3] ∧ DOwn (DK.sl (Kd.int .i64) 2) 25 J A_1 c_2 r.Items s_3) := by
  have hle := ImmLe.refl I0
  unfold laws_toRing at H
  refine fn_intro (fn := Try.f8) 12 Try.func8 rfl rfl rfl (fun E Fs => ?_)
  refine at_seq ?_
  refine at_ops [0, 1] rfl ?_
  refine at_eff rfl rfl ?_
  refine eff_box rfl rfl rfl #[.slice A19 p18.Items.length c20, .int .i64 p18.At] rfl (fun g22 => ?_)
  refine at_eff rfl rfl ?_
  obtain ⟨i_, hi_, hz_, _, _⟩ := info27
  refine eff_alloc rfl rfl hi_ hz_ #[.slice none ([] : List (List Int)).length 0, .int .i64 0] rfl (fun g23 => ?_)
  refine at_end ?_
  refine at_thn ?_
  refine at_seq ?_
  refine at_ops [0] rfl ?_
  refine at_eff rfl rfl ?_
  obtain ⟨i_, hi_, hz_, _, _⟩ := info27
  refine eff_alloc rfl rfl hi_ hz_ #[.slice none ([] : List (List Int)).length 0, .int .i64 0] rfl (fun g24 => ?_)
  refine at_end ?_
  refine at_thn ?_
  refine at_seq ?_
  refine at_ops [0, 1, 2, 3, 4] rfl ?_
  refine at_seg [0, 1] [2, 3, 4] rfl [(1, .slice A19 p18.Items.length c20)] [1, 2, 3, 5] (L2 := [(1, .pointer (some ⟨g22, 0, none⟩)), (2, .pointer (some ⟨g23, 0, none⟩)), (3, .pointer (some ⟨g24, 0, none⟩)), (5, .slice A19 p18.Items.length c20)]) (obs := [fun w => w.cell? ⟨g22, 0, none⟩ = some (.slice A19 p18.Items.length c20)]) (by kernel_rfl) ?_ ?_
  · intro w hs; exact hs.var (k := 2) rfl 0 rfl
  refine at_eff rfl rfl ?_
  obtain ⟨b2, H25, H⟩ := bind_some H
  have hm_ := laws_toInt64SS.calls (I0 := I0) H25 hr21
  refine eff_call rfl rfl ok31 rfl rfl (show Meets Try.prog 31 ([.slice A19 p18.Items.length c20] : List Value).toArray _ [] _ from hm_) (Mr := ([(g24, .cells #[.slice none ([] : List (List Int)).length 0, .int .i64 0] 27 (0, 0))] :: [(g23, .cells #[.slice none ([] : List (List Int)).length 0, .int .i64 0] 27 (0, 0))] :: [(g22, .cells #[.slice A19 p18.Items.length c20, .int .i64 p18.At] 24 (0, 0))] :: Fs)) (List.Perm.refl _) (fun v26 J27 M28 hq29 hJ30 => ?_)
  replace hle := hle.trans hJ30
  replace hr21 := hr21.mono hJ30
  obtain ⟨A31, c32, s33, rfl, rfl, ho34⟩ := hq29
  refine at_seg [3] [4] rfl [] [1, 2, 3, 6, 7] (L2 := [(1, .pointer (some ⟨g22, 0, none⟩)), (2, .pointer (some ⟨g23, 0, none⟩)), (3, .pointer (some ⟨g24, 0, none⟩)), (6, .slice A31 b2.length c32), (7, .pointer (some ⟨g24, 0, none⟩))]) (obs := []) (by kernel_rfl) ?_ ?_
  · intro w hs; exact trivial
  refine at_eff rfl rfl ?_
  refine eff_store 1 rfl rfl rfl rfl rfl rfl (.inl (Nat.le_refl _)) rfl (Nat.le_of_ble_eq_true (by kernel_rfl)) rfl ?_
  refine at_end ?_
  refine at_thn ?_
  refine at_seq ?_
  refine at_ops [0, 1, 2, 3] rfl ?_
  refine at_seg [0, 1, 2] [3] rfl [(1, .int .i64 p18.At)] [2, 3, 9, 10] (L2 := [(2, .pointer (some ⟨g23, 0, none⟩)), (3, .pointer (some ⟨g24, 0, none⟩)), (9, .int .i64 p18.At), (10, .pointer (some ⟨g24, 1, none⟩))]) (obs := [fun w => w.cell? ⟨g22, 1, none⟩ = some (.int .i64 p18.At)]) (by kernel_rfl) ?_ ?_
  · intro w hs; exact hs.var (k := 3) rfl 1 rfl
  refine at_eff rfl rfl ?_
  refine eff_store 1 rfl rfl rfl rfl rfl rfl (.inl (Nat.le_refl _)) rfl (Nat.le_of_ble_eq_true (by kernel_rfl)) rfl ?_
  refine at_end ?_
  refine at_thn ?_
  refine at_seq ?_
  refine at_ops [0, 1] rfl ?_
  refine at_seg [0] [1] rfl [(0, .agg #[.slice A31 b2.length c32, .int .i64 p18.At])] [2, 11] (L2 := [(2, .pointer (some ⟨g23, 0, none⟩)), (11, .agg #[.slice A31 b2.length c32, .int .i64 p18.At])]) (obs := [fun w => CellsAt w ⟨g24, 0, none⟩ [.slice A31 b2.length c32, .int .i64 p18.At] 0]) (by kernel_rfl) ?_ ?_
  · intro w hs; exact cellsV (k := 1) hs rfl _ 0 (Nat.le_of_ble_eq_true (by kernel_rfl)) rfl
  refine at_eff rfl rfl ?_
  refine eff_store 2 rfl rfl rfl rfl rfl rfl (.inl (Nat.le_refl _)) rfl (Nat.le_of_ble_eq_true (by kernel_rfl)) rfl ?_
  refine at_end ?_
  refine at_thn ?_
  refine at_ret ?_
  obtain rfl := Option.some.inj H
  refine at_drop (k := 1) rfl rfl ?_
  refine at_drop (k := 2) rfl rfl ?_
  refine at_done (vs := [.agg #[.slice A31 b2.length c32, .int .i64 p18.At]]) (obs := [fun w => CellsAt w ⟨g23, 0, none⟩ [.slice A31 b2.length c32, .int .i64 p18.At] 0]) (.inl rfl) [.cell 2 27] [(2, .agg #[.slice A31 b2.length c32, .int .i64 p18.At])] rfl (by kernel_rfl) (fun w hs => cellsV (k := 1) hs rfl _ 0 (Nat.le_of_ble_eq_true (by kernel_rfl)) rfl) (fun w hs => ⟨_, _, [s33], rfl, ⟨A31, c32, s33, rfl, rfl, ho34⟩, hle, (hs.tail (perm_at (k := 1) rfl))⟩)

/-! ### loop.example/g00146/spec.l01Point: function 44 -/
def spec_l01Point (p88 : Int) : Option Bool := if p88 ≥ 0 then (if p88 ≤ 1114111 then (if p88 ≥ 55296 then (some (!(decide (p88 ≤ 57343)))) else (some true)) else (some false)) else (some false)
set_option maxHeartbeats 4000000 in
set_option maxRecDepth 100000 in
theorem spec_l01Point.calls {p88 : Int} {r : Bool} {I0 : Imm} (H : spec_l01Point p88 = some r) :
    Meets Try.prog 44 ([.int .i64 p88] : List Value).toArray I0 [] (fun v J M => v = .bool r ∧ M = []) := by
  have hle := ImmLe.refl I0
  unfold spec_l01Point at H
  refine fn_intro (fn := Try.f44) 18 Try.func44 rfl rfl rfl (fun E Fs => ?_)
  refine at_seq ?_
  refine at_reg [] [0] (L2 := [(0, .int .i64 p88)]) (obs := []) (by kernel_rfl) ?_ ?_
  · intro w hs; exact trivial
  refine at_thn ?_
  refine at_seq ?_
  by_cases h89 : p88 ≥ 0
  · rw [if_pos h89] at H
    by_cases h90 : p88 ≤ 1114111
    · rw [if_pos h90] at H
      by_cases h91 : p88 ≥ 55296
      · rw [if_pos h91] at H
        refine at_reg [(2, .bool true), (6, .bool true), (9, .bool true)] [2] (L2 := [(2, .bool (!(decide (p88 ≤ 57343))))]) (obs := [fun _ => (.bool (decide (p88 ≥ 0)) : Value) = .bool true, fun _ => (.bool (decide (p88 ≤ 1114111)) : Value) = .bool true, fun _ => (.bool (decide (p88 ≥ 55296)) : Value) = .bool true]) (by kernel_rfl) ?_ ?_
        · intro w hs; exact ⟨congrArg Value.bool (decide_eq_true h89), congrArg Value.bool (decide_eq_true h90), congrArg Value.bool (decide_eq_true h91)⟩
        refine at_thn ?_
        refine at_ret ?_
        obtain rfl := Option.some.inj H
        refine at_done (vs := [.bool (!(decide (p88 ≤ 57343)))]) (obs := []) (.inl rfl) [.tmp 2] [] rfl (by kernel_rfl) (fun w hs => trivial) (fun w hs => ⟨_, _, [], rfl, ⟨rfl, rfl⟩, hle, hs⟩)
      · rw [if_neg h91] at H
        refine at_reg [(2, .bool true), (6, .bool true), (9, .bool false)] [2] (L2 := [(2, .bool true)]) (obs := [fun _ => (.bool (decide (p88 ≥ 0)) : Value) = .bool true, fun _ => (.bool (decide (p88 ≤ 1114111)) : Value) = .bool true, fun _ => (.bool (decide (p88 ≥ 55296)) : Value) = .bool false]) (by kernel_rfl) ?_ ?_
        · intro w hs; exact ⟨congrArg Value.bool (decide_eq_true h89), congrArg Value.bool (decide_eq_true h90), congrArg Value.bool (decide_eq_false h91)⟩
        refine at_thn ?_
        refine at_ret ?_
        obtain rfl := Option.some.inj H
        refine at_done (vs := [.bool true]) (obs := []) (.inl rfl) [.tmp 2] [] rfl (by kernel_rfl) (fun w hs => trivial) (fun w hs => ⟨_, _, [], rfl, ⟨rfl, rfl⟩, hle, hs⟩)
    · rw [if_neg h90] at H
      refine at_reg [(2, .bool true), (6, .bool false)] [2] (L2 := [(2, .bool false)]) (obs := [fun _ => (.bool (decide (p88 ≥ 0)) : Value) = .bool true, fun _ => (.bool (decide (p88 ≤ 1114111)) : Value) = .bool false]) (by kernel_rfl) ?_ ?_
      · intro w hs; exact ⟨congrArg Value.bool (decide_eq_true h89), congrArg Value.bool (decide_eq_false h90)⟩
      refine at_thn ?_
      refine at_ret ?_
      obtain rfl := Option.some.inj H
      refine at_done (vs := [.bool false]) (obs := []) (.inl rfl) [.tmp 2] [] rfl (by kernel_rfl) (fun w hs => trivial) (fun w hs => ⟨_, _, [], rfl, ⟨rfl, rfl⟩, hle, hs⟩)
  · rw [if_neg h89] at H
    refine at_reg [(2, .bool false)] [2] (L2 := [(2, .bool false)]) (obs := [fun _ => (.bool (decide (p88 ≥ 0)) : Value) = .bool false]) (by kernel_rfl) ?_ ?_
    · intro w hs; exact congrArg Value.bool (decide_eq_false h89)
    refine at_thn ?_
    refine at_ret ?_
    obtain rfl := Option.some.inj H
    refine at_done (vs := [.bool false]) (obs := []) (.inl rfl) [.tmp 2] [] rfl (by kernel_rfl) (fun w hs => trivial) (fun w hs => ⟨_, _, [], rfl, ⟨rfl, rfl⟩, hle, hs⟩)

/-! ### loop.example/g00146/spec.PointsRight: function 20 -/
def spec_PointsRight_l0 : Nat → Int → (List Int) → Option Bool
  | 0, _, _ => none
  | k + 1, x86, p81 => if x86 < (p81.length : Int) then (if 0 ≤ x86 then ((spec_l01Point (rdA 0 p81 x86)).bind fun b4 => (if b4 = true then (spec_PointsRight_l0 k (IntKind.i64.wrap (x86 + 1)) p81) else (some false))) else none) else (some true)
def spec_PointsRight (k : Nat) (p81 : List Int) : Option Bool := if (p81.length : Int) > 300 then (some false) else (spec_PointsRight_l0 k 0 p81)
set_option maxHeartbeats 4000000 in
set_option maxRecDepth 100000 in
theorem spec_PointsRight.calls {k : Nat} {p81 : List Int} {r : Bool} {I0 : Imm} {A82 : Option Addr} {c83 : Nat} (H : spec_PointsRight k p81 = some r) (hr84 : Rd (Kd.int .i64) I0 A82 c83 p81) :
    Meets Try.prog 20 ([.slice A82 p81.length c83] : List Value).toArray I0 [] (fun v J M => v = .bool r ∧ M = []) := by
  have hle := ImmLe.refl I0
  unfold spec_PointsRight at H
  refine fn_intro (fn := Try.f20) 19 Try.func20 rfl rfl rfl (fun E Fs => ?_)
  refine at_seq ?_
  refine at_reg [] [0] (L2 := [(0, .slice A82 p81.length c83)]) (obs := []) (by kernel_rfl) ?_ ?_
  · intro w hs; exact trivial
  refine at_thn ?_
  refine at_seq ?_
  refine at_seq ?_
  refine at_reg [] [0, 6] (L2 := [(0, .slice A82 p81.length c83), (6, .bool (decide ((p81.length : Int) > 300)))]) (obs := []) (by kernel_rfl) ?_ ?_
  · intro w hs; exact trivial
  refine at_thn ?_
  by_cases h85 : (p81.length : Int) > 300
  · rw [if_pos h85] at H
    refine at_cond_t rfl (decide_eq_true h85) ?_
    refine at_seq ?_
    refine at_reg [] [2] (L2 := [(2, .bool false)]) (obs := []) (by kernel_rfl) ?_ ?_
    · intro w hs; exact trivial
    refine at_thn ?_
    refine at_ret ?_
    refine at_then_ret ?_
    obtain rfl := Option.some.inj H
    refine at_done (vs := [.bool false]) (obs := []) (.inl rfl) [.tmp 2] [] rfl (by kernel_rfl) (fun w hs => trivial) (fun w hs => ⟨_, _, [], rfl, ⟨rfl, rfl⟩, hle, hs⟩)
  · rw [if_neg h85] at H
    refine at_cond_f rfl (decide_eq_false h85) ?_
    refine at_skip ?_
    refine at_thn ?_
    refine at_seq ?_
    refine at_seq ?_
    refine at_reg [] [0, 3] (L2 := [(0, .slice A82 p81.length c83), (3, .int .i64 0)]) (obs := []) (by kernel_rfl) ?_ ?_
    · intro w hs; exact trivial
    refine at_thn ?_
    refine at_block ?_
    refine at_keep [0, 3] (L2 := [(0, .slice A82 p81.length c83), (3, .int .i64 0)]) rfl ?_
    refine at_loop (fun k87 L I Ms => ∃ (x86 : Int), L = [(0, .slice A82 p81.length c83), (3, .int .i64 x86)] ∧ Ms = ([] ++ Fs) ∧ spec_PointsRight_l0 k87 x86 p81 = some r ∧ ImmLe I0 I ∧ k87 ≤ k ∧ Rd (Kd.int .i64) I A82 c83 p81) ?_ ?_ k ⟨0, rfl, rfl, H, hle, Nat.le_refl _, hr84⟩
    · rintro L I Ms ⟨_, rfl, rfl, H, _⟩; exact no_none H
    · clear H hle hr84
      intro k87 ih88 L I Ms h_; obtain ⟨x86, hL_, hM_, H, hle, hk89, hr84⟩ := h_; rw [hL_, hM_]; clear hL_ hM_ L Ms
      rw [spec_PointsRight_l0] at H
      refine at_seq ?_
      refine at_seq ?_
      refine at_reg [] [0, 3, 10] (L2 := [(0, .slice A82 p81.length c83), (3, .int .i64 x86), (10, .bool (decide (x86 < (p81.length : Int))))]) (obs := []) (by kernel_rfl) ?_ ?_
      · intro w hs; exact trivial
      refine at_thn ?_
      by_cases h90 : x86 < (p81.length : Int)
      · rw [if_pos h90] at H
        refine at_cond_t rfl (decide_eq_true h90) ?_
        refine at_skip ?_
        refine at_thn ?_
        refine at_seq ?_
        refine at_block ?_
        refine at_seq ?_
        refine at_ops [0, 1, 2, 3, 4, 5] rfl ?_
        obtain ⟨h91, H⟩ := ite_some H
        refine at_seg [0, 1, 2, 3] [4, 5] rfl [(3, .int .i64 (rdA 0 p81 x86))] [0, 3, 16] (L2 := [(0, .slice A82 p81.length c83), (3, .int .i64 x86), (16, .int .i64 (rdA 0 p81 x86))]) (obs := [fun _ => A82.isSome = true ∧ 0 ≤ x86 ∧ x86 < ((p81.length : Nat) : Int), fun w => w.cell? ((A82.getD ad0).add (x86.toNat * 1)) = some (.int .i64 (rdA 0 p81 x86))]) (by kernel_rfl) ?_ ?_
        · intro w hs; exact ⟨⟨hr84.ne x86 h91 h90, h91, h90⟩, hr84.one 0 x86 h91 h90 hs⟩
        refine at_eff rfl rfl ?_
        obtain ⟨b4, H92, H⟩ := bind_some H
        have hm_ := spec_l01Point.calls (I0 := I) H92
        refine eff_call rfl rfl ok44 rfl rfl (show Meets Try.prog 44 ([.int .i64 (rdA 0 p81 x86)] : List Value).toArray _ [] _ from hm_) (Mr := (Fs)) (List.Perm.refl _) (fun v93 J94 M95 hq96 hJ97 => ?_)
        replace hle := hle.trans hJ97
        replace hr84 := hr84.mono hJ97
        obtain ⟨rfl, rfl⟩ := hq96
        refine at_seg [5] [] rfl [] [0, 3, 18] (L2 := [(0, .slice A82 p81.length c83), (3, .int .i64 x86), (18, .bool (!b4))]) (obs := []) (by kernel_rfl) ?_ ?_
        · intro w hs; exact trivial
        refine at_end ?_
        refine at_thn ?_
        by_cases h98 : b4 = true
        · rw [if_pos h98] at H
          refine at_cond_f rfl (not_ff (h98)) ?_
          refine at_skip ?_
          refine at_in_norm ?_
          refine at_thn ?_
          refine at_reg [] [0, 3] (L2 := [(0, .slice A82 p81.length c83), (3, .int .i64 (IntKind.i64.wrap (x86 + 1)))]) (obs := []) (by kernel_rfl) ?_ ?_
          · intro w hs; exact trivial
          refine at_thn ?_
          refine at_keep [0, 3] (L2 := [(0, .slice A82 p81.length c83), (3, .int .i64 (IntKind.i64.wrap (x86 + 1)))]) rfl ?_
          exact ih88 _ (by omega) _ _ _ ⟨IntKind.i64.wrap (x86 + 1), rfl, rfl, H, hle, by omega, hr84⟩
        · rw [if_neg h98] at H
          refine at_cond_t rfl (not_tt (ff_of h98)) ?_
          refine at_seq ?_
          refine at_reg [] [2] (L2 := [(2, .bool false)]) (obs := []) (by kernel_rfl) ?_ ?_
          · intro w hs; exact trivial
          refine at_thn ?_
          refine at_ret ?_
          refine at_in_ret ?_
          refine at_then_ret ?_
          refine at_then_ret ?_
          refine at_in_ret ?_
          refine at_then_ret ?_
          obtain rfl := Option.some.inj H
          refine at_done (vs := [.bool false]) (obs := []) (.inl rfl) [.tmp 2] [] rfl (by kernel_rfl) (fun w hs => trivial) (fun w hs => ⟨_, _, [], rfl, ⟨rfl, rfl⟩, hle, hs⟩)
      · rw [if_neg h90] at H
        refine at_cond_f rfl (decide_eq_false h90) ?_
        refine at_exit ?_
        refine at_then_exit ?_
        refine at_then_exit ?_
        refine at_in_hit ?_
        refine at_thn ?_
        refine at_seq ?_
        refine at_reg [] [2] (L2 := [(2, .bool true)]) (obs := []) (by kernel_rfl) ?_ ?_
        · intro w hs; exact trivial
        refine at_thn ?_
        refine at_ret ?_
        obtain rfl := Option.some.inj H
        refine at_done (vs := [.bool true]) (obs := []) (.inl rfl) [.tmp 2] [] rfl (by kernel_rfl) (fun w hs => trivial) (fun w hs => ⟨_, _, [], rfl, ⟨rfl, rfl⟩, hle, hs⟩)

/-! ### loop.example/g00146/spec.l04Items: function 43 -/
def spec_l04Items_l0 : Nat → Int → (List (List Int)) → Option Bool
  | 0, _, _ => none
  | k + 1, x60, p54 => if x60 < (p54.length : Int) then (if 0 ≤ x60 then (if ((rdA [] p54 x60).length : Int) = 0 then (some false) else ((spec_PointsRight k (rdA [] p54 x60)).bind fun b4 => (if b4 = true then (spec_l04Items_l0 k (IntKind.i64.wrap (x60 + 1)) p54) else (some false)))) else none) else (some true)
def spec_l04Items (k : Nat) (p54 : List (List Int)) (p58 : Int) : Option Bool := if (p54.length : Int) > p58 then (some false) else (spec_l04Items_l0 k 0 p54)
set_option maxHeartbeats 4000000 in
set_option maxRecDepth 100000 in
theorem spec_l04Items.calls {k : Nat} {p54 : List (List Int)} {p58 : Int} {r : Bool} {I0 : Imm} {A55 : Option Addr} {c56 : Nat} (H : spec_l04Items k p54 p58 = some r) (hr57 : Rd (Kd.slice (Kd.int .i64)) I0 A55 c56 p54) :
    Meets Try.prog 43 ([.slice A55 p54.length c56, .int .i64 p58] : List Value).toArray I0 [] (fun v J M => v = .bool r ∧ M = []) := by
  have hle := ImmLe.refl I0
  unfold spec_l04Items at H
  refine fn_intro (fn := Try.f43) 30 Try.func43 rfl rfl rfl (fun E Fs => ?_)
  refine at_seq ?_
  refine at_reg [] [0, 1] (L2 := [(0, .slice A55 p54.length c56), (1, .int .i64 p58)]) (obs := []) (by kernel_rfl) ?_ ?_
  · intro w hs; exact trivial
  refine at_thn ?_
  refine at_seq ?_
  refine at_seq ?_
  refine at_reg [] [0, 9] (L2 := [(0, .slice A55 p54.length c56), (9, .bool (decide ((p54.length : Int) > p58)))]) (obs := []) (by kernel_rfl) ?_ ?_
  · intro w hs; exact trivial
  refine at_thn ?_
  by_cases h59 : (p54.length : Int) > p58
  · rw [if_pos h59] at H
    refine at_cond_t rfl (decide_eq_true h59) ?_
    refine at_seq ?_
    refine at_reg [] [4] (L2 := [(4, .bool false)]) (obs := []) (by kernel_rfl) ?_ ?_
    · intro w hs; exact trivial
    refine at_thn ?_
    refine at_ret ?_
    refine at_then_ret ?_
    obtain rfl := Option.some.inj H
    refine at_done (vs := [.bool false]) (obs := []) (.inl rfl) [.tmp 4] [] rfl (by kernel_rfl) (fun w hs => trivial) (fun w hs => ⟨_, _, [], rfl, ⟨rfl, rfl⟩, hle, hs⟩)
  · rw [if_neg h59] at H
    refine at_cond_f rfl (decide_eq_false h59) ?_
    refine at_skip ?_
    refine at_thn ?_
    refine at_seq ?_
    refine at_seq ?_
    refine at_reg [] [0, 5] (L2 := [(0, .slice A55 p54.length c56), (5, .int .i64 0)]) (obs := []) (by kernel_rfl) ?_ ?_
    · intro w hs; exact trivial
    refine at_thn ?_
    refine at_block ?_
    refine at_keep [0, 5] (L2 := [(0, .slice A55 p54.length c56), (5, .int .i64 0)]) rfl ?_
    refine at_loop (fun k61 L I Ms => ∃ (x60 : Int), L = [(0, .slice A55 p54.length c56), (5, .int .i64 x60)] ∧ Ms = ([] ++ Fs) ∧ spec_l04Items_l0 k61 x60 p54 = some r ∧ ImmLe I0 I ∧ k61 ≤ k ∧ Rd (Kd.slice (Kd.int .i64)) I A55 c56 p54) ?_ ?_ k ⟨0, rfl, rfl, H, hle, Nat.le_refl _, hr57⟩
    · rintro L I Ms ⟨_, rfl, rfl, H, _⟩; exact no_none H
    · clear H hle hr57
      intro k61 ih62 L I Ms h_; obtain ⟨x60, hL_, hM_, H, hle, hk63, hr57⟩ := h_; rw [hL_, hM_]; clear hL_ hM_ L Ms
      rw [spec_l04Items_l0] at H
      refine at_seq ?_
      refine at_seq ?_
      refine at_reg [] [0, 5, 13] (L2 := [(0, .slice A55 p54.length c56), (5, .int .i64 x60), (13, .bool (decide (x60 < (p54.length : Int))))]) (obs := []) (by kernel_rfl) ?_ ?_
      · intro w hs; exact trivial
      refine at_thn ?_
      by_cases h64 : x60 < (p54.length : Int)
      · rw [if_pos h64] at H
        refine at_cond_t rfl (decide_eq_true h64) ?_
        refine at_skip ?_
        refine at_thn ?_
        refine at_seq ?_
        refine at_block ?_
        refine at_seq ?_
        refine at_ops [0, 1, 2, 3, 4, 5, 6, 7, 8, 9, 10, 11, 12, 13] rfl ?_
        obtain ⟨h65, H⟩ := ite_some H
        by_cases h72 : ((rdA [] p54 x60).length : Int) = 0
        · rw [if_pos h72] at H
          obtain ⟨cs77, hz78, hc73⟩ := hr57.elem [] x60 h65 h64
          obtain ⟨A74, c75, rfl, hr76⟩ := hz78
          refine at_seg [0, 1, 2, 3, 4, 5, 6, 7, 8, 9, 10] [11, 12, 13] rfl [(3, .slice A74 (rdA [] p54 x60).length c75), (6, .bool true)] [0, 5, 22, 26] (L2 := [(0, .slice A55 p54.length c56), (5, .int .i64 x60), (22, .bool true), (26, undef)]) (obs := [fun _ => A55.isSome = true ∧ 0 ≤ x60 ∧ x60 < ((p54.length : Nat) : Int), fun w => w.cell? ((A55.getD ad0).add (x60.toNat * 1)) = some (.slice A74 (rdA [] p54 x60).length c75), fun _ => (.bool (((rdA [] p54 x60).length : Int) == 0) : Value) = .bool true]) (by kernel_rfl) ?_ ?_
          · intro w hs; exact ⟨⟨hr57.ne x60 h65 h64, h65, h64⟩, cell0 (hc73 0 _ rfl hs), congrArg Value.bool (beq_iff_eq.2 h72)⟩
          refine at_seg [11, 12, 13] [] rfl [] [0, 5, 29] (L2 := [(0, .slice A55 p54.length c56), (5, .int .i64 x60), (29, .bool true)]) (obs := []) (by kernel_rfl) ?_ ?_
          · intro w hs; exact trivial
          refine at_end ?_
          refine at_thn ?_
          refine at_cond_t rfl (rfl) ?_
          refine at_seq ?_
          refine at_reg [] [4] (L2 := [(4, .bool false)]) (obs := []) (by kernel_rfl) ?_ ?_
          · intro w hs; exact trivial
          refine at_thn ?_
          refine at_ret ?_
          refine at_in_ret ?_
          refine at_then_ret ?_
          refine at_then_ret ?_
          refine at_in_ret ?_
          refine at_then_ret ?_
          obtain rfl := Option.some.inj H
          refine at_done (vs := [.bool false]) (obs := []) (.inl rfl) [.tmp 4] [] rfl (by kernel_rfl) (fun w hs => trivial) (fun w hs => ⟨_, _, [], rfl, ⟨rfl, rfl⟩, hle, hs⟩)
        · rw [if_neg h72] at H
          obtain ⟨cs83, hz84, hc79⟩ := hr57.elem [] x60 h65 h64
          obtain ⟨A80, c81, rfl, hr82⟩ := hz84
          refine at_seg [0, 1, 2, 3, 4, 5, 6, 7, 8, 9, 10] [11, 12, 13] rfl [(3, .slice A80 (rdA [] p54 x60).length c81), (6, .bool false), (10, .slice A80 (rdA [] p54 x60).length c81)] [0, 5, 22, 26] (L2 := [(0, .slice A55 p54.length c56), (5, .int .i64 x60), (22, .bool false), (26, .slice A80 (rdA [] p54 x60).length c81)]) (obs := [fun _ => A55.isSome = true ∧ 0 ≤ x60 ∧ x60 < ((p54.length : Nat) : Int), fun w => w.cell? ((A55.getD ad0).add (x60.toNat * 1)) = some (.slice A80 (rdA [] p54 x60).length c81), fun _ => (.bool (((rdA [] p54 x60).length : Int) == 0) : Value) = .bool false, fun _ => A55.isSome = true ∧ 0 ≤ x60 ∧ x60 < ((p54.length : Nat) : Int), fun w => w.cell? ((A55.getD ad0).add (x60.toNat * 1)) = some (.slice A80 (rdA [] p54 x60).length c81)]) (by kernel_rfl) ?_ ?_
          · intro w hs; exact ⟨⟨hr57.ne x60 h65 h64, h65, h64⟩, cell0 (hc79 0 _ rfl hs), congrArg Value.bool (beq_eq_false_iff_ne.2 h72), ⟨hr57.ne x60 h65 h64, h65, h64⟩, cell0 (hc79 0 _ rfl hs)⟩
          refine at_eff rfl rfl ?_
          obtain ⟨b4, H85, H⟩ := bind_some H
          have hm_ := spec_PointsRight.calls (I0 := I) H85 hr82
          refine eff_call rfl rfl ok20 rfl rfl (show Meets Try.prog 20 ([.slice A80 (rdA [] p54 x60).length c81] : List Value).toArray _ [] _ from hm_) (Mr := (Fs)) (List.Perm.refl _) (fun v86 J87 M88 hq89 hJ90 => ?_)
          replace hle := hle.trans hJ90
          replace hr57 := hr57.mono hJ90
          replace hr82 := hr82.mono hJ90
          obtain ⟨rfl, rfl⟩ := hq89
          refine at_seg [12, 13] [] rfl [] [0, 5, 29] (L2 := [(0, .slice A55 p54.length c56), (5, .int .i64 x60), (29, .bool (!b4))]) (obs := []) (by kernel_rfl) ?_ ?_
          · intro w hs; exact trivial
          refine at_end ?_
          refine at_thn ?_
          by_cases h91 : b4 = true
          · rw [if_pos h91] at H
            refine at_cond_f rfl (not_ff (h91)) ?_
            refine at_skip ?_
            refine at_in_norm ?_
            refine at_thn ?_
            refine at_reg [] [0, 5] (L2 := [(0, .slice A55 p54.length c56), (5, .int .i64 (IntKind.i64.wrap (x60 + 1)))]) (obs := []) (by kernel_rfl) ?_ ?_
            · intro w hs; exact trivial
            refine at_thn ?_
            refine at_keep [0, 5] (L2 := [(0, .slice A55 p54.length c56), (5, .int .i64 (IntKind.i64.wrap (x60 + 1)))]) rfl ?_
            exact ih62 _ (by omega) _ _ _ ⟨IntKind.i64.wrap (x60 + 1), rfl, rfl, H, hle, by omega, hr57⟩
          · rw [if_neg h91] at H
            refine at_cond_t rfl (not_tt (ff_of h91)) ?_
            refine at_seq ?_
            refine at_reg [] [4] (L2 := [(4, .bool false)]) (obs := []) (by kernel_rfl) ?_ ?_
            · intro w hs; exact trivial
            refine at_thn ?_
            refine at_ret ?_
            refine at_in_ret ?_
            refine at_then_ret ?_
            refine at_then_ret ?_
            refine at_in_ret ?_
            refine at_then_ret ?_
            obtain rfl := Option.some.inj H
            refine at_done (vs := [.bool false]) (obs := []) (.inl rfl) [.tmp 4] [] rfl (by kernel_rfl) (fun w hs => trivial) (fun w hs => ⟨_, _, [], rfl, ⟨rfl, rfl⟩, hle, hs⟩)
      · rw [if_neg h64] at H
        refine at_cond_f rfl (decide_eq_false h64) ?_
        refine at_exit ?_
        refine at_then_exit ?_
        refine at_then_exit ?_
        refine at_in_hit ?_
        refine at_thn ?_
        refine at_seq ?_
        refine at_reg [] [4] (L2 := [(4, .bool true)]) (obs := []) (by kernel_rfl) ?_ ?_
        · intro w hs; exact trivial
        refine at_thn ?_
        refine at_ret ?_
        obtain rfl := Option.some.inj H
        refine at_done (vs := [.bool true]) (obs := []) (.inl rfl) [.tmp 4] [] rfl (by kernel_rfl) (fun w hs => trivial) (fun w hs => ⟨_, _, [], rfl, ⟨rfl, rfl⟩, hle, hs⟩)
end Go.Proofs.Ytabdhegmepaeiaa
