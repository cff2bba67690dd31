import Derived.Test.YtabdhegmepaeiaaJ0
namespace Go.Proofs.Ytabdhegmepaeiaa
open Go Eng
set_option linter.unusedVariables false
set_option linter.unusedSimpArgs false
/-! ### loop.example/g00146/laws.szInt64S: function 50 -/
def laws_szInt64S (p32 : List Int) (p36 : Int) : Option Int := if (IntKind.i64.wrap (p36 - (p32.length : Int))) < 0 then (some (-1)) else (some (IntKind.i64.wrap (p36 - (p32.length : Int))))
set_option maxHeartbeats 4000000 in
set_option maxRecDepth 100000 in
theorem laws_szInt64S.calls {p32 : List Int} {p36 : Int} {r : Int} {I0 : Imm} {A33 : Option Addr} {c34 : Nat} (H : laws_szInt64S p32 p36 = some r) (hr35 : Rd (Kd.int .i64) I0 A33 c34 p32) :
    Meets Try.prog 50 ([.slice A33 p32.length c34, .int .i64 p36] : List Value).toArray I0 [] (fun v J M => v = .int .i64 r ∧ M = []) := by
  have hle := ImmLe.refl I0
  unfold laws_szInt64S at H
  refine fn_intro (fn := Try.f50) 12 Try.func50 rfl rfl rfl (fun E Fs => ?_)
  refine at_seq ?_
  refine at_reg [] [0, 1] (L2 := [(0, .slice A33 p32.length c34), (1, .int .i64 p36)]) (obs := []) (by kernel_rfl) ?_ ?_
  · intro w hs; exact trivial
  refine at_thn ?_
  refine at_seq ?_
  refine at_reg [] [1] (L2 := [(1, .int .i64 (IntKind.i64.wrap (p36 - (p32.length : Int))))]) (obs := []) (by kernel_rfl) ?_ ?_
  · intro w hs; exact trivial
  refine at_thn ?_
  refine at_seq ?_
  refine at_seq ?_
  refine at_reg [] [1, 10] (L2 := [(1, .int .i64 (IntKind.i64.wrap (p36 - (p32.length : Int)))), (10, .bool (decide ((IntKind.i64.wrap (p36 - (p32.length : Int))) < 0)))]) (obs := []) (by kernel_rfl) ?_ ?_
  · intro w hs; exact trivial
  refine at_thn ?_
  by_cases h37 : (IntKind.i64.wrap (p36 - (p32.length : Int))) < 0
  · rw [if_pos h37] at H
    refine at_cond_t rfl (decide_eq_true h37) ?_
    refine at_seq ?_
    refine at_reg [] [4] (L2 := [(4, .int .i64 (-1))]) (obs := []) (by kernel_rfl) ?_ ?_
    · intro w hs; exact trivial
    refine at_thn ?_
    refine at_ret ?_
    refine at_then_ret ?_
    obtain rfl := Option.some.inj H
    refine at_done (vs := [.int .i64 (-1)]) (obs := []) (.inl rfl) [.tmp 4] [] rfl (by kernel_rfl) (fun w hs => trivial) (fun w hs => ⟨_, _, [], rfl, ⟨rfl, rfl⟩, hle, hs⟩)
  · rw [if_neg h37] at H
    refine at_cond_f rfl (decide_eq_false h37) ?_
    refine at_skip ?_
    refine at_thn ?_
    refine at_seq ?_
    refine at_reg [] [4] (L2 := [(4, .int .i64 (IntKind.i64.wrap (p36 - (p32.length : Int))))]) (obs := []) (by kernel_rfl) ?_ ?_
    · intro w hs; exact trivial
    refine at_thn ?_
    refine at_ret ?_
    obtain rfl := Option.some.inj H
    refine at_done (vs := [.int .i64 (IntKind.i64.wrap (p36 - (p32.length : Int)))]) (obs := []) (.inl rfl) [.tmp 4] [] rfl (by kernel_rfl) (fun w hs => trivial) (fun w hs => ⟨_, _, [], rfl, ⟨rfl, rfl⟩, hle, hs⟩)

/-! ### loop.example/g00146/laws.szInt64SS: function 27 -/
def laws_szInt64SS_l0 : Nat → Int → Int → (List (List Int)) → Option Int
  | 0, _, _, _ => none
  | k + 1, x24, x25, p18 => if x25 < (p18.length : Int) then (if 0 ≤ x25 then ((laws_szInt64S (rdA [] p18 x25) x24).bind fun b1 => (if b1 < 0 then (some (-1)) else (laws_szInt64SS_l0 k b1 (IntKind.i64.wrap (x25 + 1)) p18))) else none) else (some x24)
def laws_szInt64SS (k : Nat) (p18 : List (List Int)) (p22 : Int) : Option Int := if (IntKind.i64.wrap (p22 - (p18.length : Int))) < 0 then (some (-1)) else (laws_szInt64SS_l0 k (IntKind.i64.wrap (p22 - (p18.length : Int))) 0 p18)
set_option maxHeartbeats 4000000 in
set_option maxRecDepth 100000 in
theorem laws_szInt64SS.calls {k : Nat} {p18 : List (List Int)} {p22 : Int} {r : Int} {I0 : Imm} {A19 : Option Addr} {c20 : Nat} (H : laws_szInt64SS k p18 p22 = some r) (hr21 : Rd (Kd.slice (Kd.int .i64)) I0 A19 c20 p18) :
    Meets Try.prog 27 ([.slice A19 p18.length c20, .int .i64 p22] : List Value).toArray I0 [] (fun v J M => v = .int .i64 r ∧ M = []) := by
  have hle := ImmLe.refl I0
  unfold laws_szInt64SS at H
  refine fn_intro (fn := Try.f27) 27 Try.func27 rfl rfl rfl (fun E Fs => ?_)
  refine at_seq ?_
  refine at_reg [] [0, 1] (L2 := [(0, .slice A19 p18.length c20), (1, .int .i64 p22)]) (obs := []) (by kernel_rfl) ?_ ?_
  · intro w hs; exact trivial
  refine at_thn ?_
  refine at_seq ?_
  refine at_reg [] [0, 1] (L2 := [(0, .slice A19 p18.length c20), (1, .int .i64 (IntKind.i64.wrap (p22 - (p18.length : Int))))]) (obs := []) (by kernel_rfl) ?_ ?_
  · intro w hs; exact trivial
  refine at_thn ?_
  refine at_seq ?_
  refine at_seq ?_
  refine at_reg [] [0, 1, 11] (L2 := [(0, .slice A19 p18.length c20), (1, .int .i64 (IntKind.i64.wrap (p22 - (p18.length : Int)))), (11, .bool (decide ((IntKind.i64.wrap (p22 - (p18.length : Int))) < 0)))]) (obs := []) (by kernel_rfl) ?_ ?_
  · intro w hs; exact trivial
  refine at_thn ?_
  by_cases h23 : (IntKind.i64.wrap (p22 - (p18.length : Int))) < 0
  · rw [if_pos h23] at H
    refine at_cond_t rfl (decide_eq_true h23) ?_
    refine at_seq ?_
    refine at_reg [] [4] (L2 := [(4, .int .i64 (-1))]) (obs := []) (by kernel_rfl) ?_ ?_
    · intro w hs; exact trivial
    refine at_thn ?_
    refine at_ret ?_
    refine at_then_ret ?_
    obtain rfl := Option.some.inj H
    refine at_done (vs := [.int .i64 (-1)]) (obs := []) (.inl rfl) [.tmp 4] [] rfl (by kernel_rfl) (fun w hs => trivial) (fun w hs => ⟨_, _, [], rfl, ⟨rfl, rfl⟩, hle, hs⟩)
  · rw [if_neg h23] at H
    refine at_cond_f rfl (decide_eq_false h23) ?_
    refine at_skip ?_
    refine at_thn ?_
    refine at_seq ?_
    refine at_seq ?_
    refine at_reg [] [0, 1, 5] (L2 := [(0, .slice A19 p18.length c20), (1, .int .i64 (IntKind.i64.wrap (p22 - (p18.length : Int)))), (5, .int .i64 0)]) (obs := []) (by kernel_rfl) ?_ ?_
    · intro w hs; exact trivial
    refine at_thn ?_
    refine at_block ?_
    refine at_keep [0, 1, 5] (L2 := [(0, .slice A19 p18.length c20), (1, .int .i64 (IntKind.i64.wrap (p22 - (p18.length : Int)))), (5, .int .i64 0)]) rfl ?_
    refine at_loop (fun k26 L I Ms => ∃ (x24 : Int) (x25 : Int), L = [(0, .slice A19 p18.length c20), (1, .int .i64 x24), (5, .int .i64 x25)] ∧ Ms = ([] ++ Fs) ∧ laws_szInt64SS_l0 k26 x24 x25 p18 = some r ∧ ImmLe I0 I ∧ k26 ≤ k ∧ Rd (Kd.slice (Kd.int .i64)) I A19 c20 p18) ?_ ?_ k ⟨IntKind.i64.wrap (p22 - (p18.length : Int)), 0, rfl, rfl, H, hle, Nat.le_refl _, hr21⟩
    · rintro L I Ms ⟨_, _, rfl, rfl, H, _⟩; exact no_none H
    · clear H hle hr21
      intro k26 ih27 L I Ms h_; obtain ⟨x24, x25, hL_, hM_, H, hle, hk28, hr21⟩ := h_; rw [hL_, hM_]; clear hL_ hM_ L Ms
      rw [laws_szInt64SS_l0] at H
      refine at_seq ?_
      refine at_seq ?_
      refine at_reg [] [0, 1, 5, 15] (L2 := [(0, .slice A19 p18.length c20), (1, .int .i64 x24), (5, .int .i64 x25), (15, .bool (decide (x25 < (p18.length : Int))))]) (obs := []) (by kernel_rfl) ?_ ?_
      · intro w hs; exact trivial
      refine at_thn ?_
      by_cases h29 : x25 < (p18.length : Int)
      · rw [if_pos h29] at H
        refine at_cond_t rfl (decide_eq_true h29) ?_
        refine at_skip ?_
        refine at_thn ?_
        refine at_seq ?_
        refine at_block ?_
        refine at_seq ?_
        refine at_ops [0, 1, 2, 3, 4, 5, 6] rfl ?_
        obtain ⟨h30, H⟩ := ite_some H
        obtain ⟨cs35, hz36, hc31⟩ := hr21.elem [] x25 h30 h29
        obtain ⟨A32, c33, rfl, hr34⟩ := hz36
        refine at_seg [0, 1, 2, 3, 4] [5, 6] rfl [(3, .slice A32 (rdA [] p18 x25).length c33)] [0, 1, 5, 21, 22] (L2 := [(0, .slice A19 p18.length c20), (1, .int .i64 x24), (5, .int .i64 x25), (21, .slice A32 (rdA [] p18 x25).length c33), (22, .int .i64 x24)]) (obs := [fun _ => A19.isSome = true ∧ 0 ≤ x25 ∧ x25 < ((p18.length : Nat) : Int), fun w => w.cell? ((A19.getD ad0).add (x25.toNat * 1)) = some (.slice A32 (rdA [] p18 x25).length c33)]) (by kernel_rfl) ?_ ?_
        · intro w hs; exact ⟨⟨hr21.ne x25 h30 h29, h30, h29⟩, cell0 (hc31 0 _ rfl hs)⟩
        refine at_eff rfl rfl ?_
        obtain ⟨b1, H37, H⟩ := bind_some H
        have hm_ := laws_szInt64S.calls (I0 := I) H37 hr34
        refine eff_call rfl rfl ok50 rfl rfl (show Meets Try.prog 50 ([.slice A32 (rdA [] p18 x25).length c33, .int .i64 x24] : List Value).toArray _ [] _ from hm_) (Mr := (Fs)) (List.Perm.refl _) (fun v38 J39 M40 hq41 hJ42 => ?_)
        replace hle := hle.trans hJ42
        replace hr21 := hr21.mono hJ42
        replace hr34 := hr34.mono hJ42
        obtain ⟨rfl, rfl⟩ := hq41
        refine at_seg [6] [] rfl [] [0, 1, 5] (L2 := [(0, .slice A19 p18.length c20), (1, .int .i64 b1), (5, .int .i64 x25)]) (obs := []) (by kernel_rfl) ?_ ?_
        · intro w hs; exact trivial
        refine at_end ?_
        refine at_thn ?_
        refine at_seq ?_
        refine at_reg [] [0, 1, 5, 25] (L2 := [(0, .slice A19 p18.length c20), (1, .int .i64 b1), (5, .int .i64 x25), (25, .bool (decide (b1 < 0)))]) (obs := []) (by kernel_rfl) ?_ ?_
        · intro w hs; exact trivial
        refine at_thn ?_
        by_cases h43 : b1 < 0
        · rw [if_pos h43] at H
          refine at_cond_t rfl (decide_eq_true h43) ?_
          refine at_seq ?_
          refine at_reg [] [4] (L2 := [(4, .int .i64 (-1))]) (obs := []) (by kernel_rfl) ?_ ?_
          · intro w hs; exact trivial
          refine at_thn ?_
          refine at_ret ?_
          refine at_in_ret ?_
          refine at_then_ret ?_
          refine at_then_ret ?_
          refine at_in_ret ?_
          refine at_then_ret ?_
          obtain rfl := Option.some.inj H
          refine at_done (vs := [.int .i64 (-1)]) (obs := []) (.inl rfl) [.tmp 4] [] rfl (by kernel_rfl) (fun w hs => trivial) (fun w hs => ⟨_, _, [], rfl, ⟨rfl, rfl⟩, hle, hs⟩)
        · rw [if_neg h43] at H
          refine at_cond_f rfl (decide_eq_false h43) ?_
          refine at_skip ?_
          refine at_in_norm ?_
          refine at_thn ?_
          refine at_reg [] [0, 1, 5] (L2 := [(0, .slice A19 p18.length c20), (1, .int .i64 b1), (5, .int .i64 (IntKind.i64.wrap (x25 + 1)))]) (obs := []) (by kernel_rfl) ?_ ?_
          · intro w hs; exact trivial
          refine at_thn ?_
          refine at_keep [0, 1, 5] (L2 := [(0, .slice A19 p18.length c20), (1, .int .i64 b1), (5, .int .i64 (IntKind.i64.wrap (x25 + 1)))]) rfl ?_
          exact ih27 _ (by omega) _ _ _ ⟨b1, IntKind.i64.wrap (x25 + 1), rfl, rfl, H, hle, by omega, hr21⟩
      · rw [if_neg h29] at H
        refine at_cond_f rfl (decide_eq_false h29) ?_
        refine at_exit ?_
        refine at_then_exit ?_
        refine at_then_exit ?_
        refine at_in_hit ?_
        refine at_thn ?_
        refine at_seq ?_
        refine at_reg [] [4] (L2 := [(4, .int .i64 x24)]) (obs := []) (by kernel_rfl) ?_ ?_
        · intro w hs; exact trivial
        refine at_thn ?_
        refine at_ret ?_
        obtain rfl := Option.some.inj H
        refine at_done (vs := [.int .i64 x24]) (obs := []) (.inl rfl) [.tmp 4] [] rfl (by kernel_rfl) (fun w hs => trivial) (fun w hs => ⟨_, _, [], rfl, ⟨rfl, rfl⟩, hle, hs⟩)

/-! ### loop.example/g00146/laws.szRing: function 6 -/
def laws_szRing (k : Nat) (p12 : T_laws_Ring) (p16 : Int) : Option Int := (laws_szInt64SS k p12.Items p16).bind fun b1 => (if b1 < 0 then (some (-1)) else (some b1))
set_option maxHeartbeats 4000000 in
set_option maxRecDepth 100000 in
theorem laws_szRing.calls {k : Nat} {p12 : T_laws_Ring} {p16 : Int} {r : Int} {I0 : Imm} {A13 : Option Addr} {c14 : Nat} (H : laws_szRing k p12 p16 = some r) (hr15 : Rd (Kd.slice (Kd.int .i64)) I0 A13 c14 p12.Items) :
    Meets Try.prog 6 ([.agg #[.slice A13 p12.Items.length c14, .int .i64 p12.At], .int .i64 p16] : List Value).toArray I0 [] (fun v J M => v = .int .i64 r ∧ M = []) := by
  have hle := ImmLe.refl I0
  unfold laws_szRing at H
  refine fn_intro (fn := Try.f6) 12 Try.func6 rfl rfl rfl (fun E Fs => ?_)
  refine at_seq ?_
  refine at_ops [0, 1] rfl ?_
  refine at_eff rfl rfl ?_
  refine eff_box rfl rfl rfl #[.slice A13 p12.Items.length c14, .int .i64 p12.At] rfl (fun g17 => ?_)
  refine at_seg [1] [] rfl [] [1, 2] (L2 := [(1, .int .i64 p16), (2, .pointer (some ⟨g17, 0, none⟩))]) (obs := []) (by kernel_rfl) ?_ ?_
  · intro w hs; exact trivial
  refine at_end ?_
  refine at_thn ?_
  refine at_seq ?_
  refine at_ops [0, 1, 2, 3, 4] rfl ?_
  refine at_seg [0, 1, 2] [3, 4] rfl [(1, .slice A13 p12.Items.length c14)] [1, 6, 7] (L2 := [(1, .int .i64 p16), (6, .slice A13 p12.Items.length c14), (7, .int .i64 p16)]) (obs := [fun w => w.cell? ⟨g17, 0, none⟩ = some (.slice A13 p12.Items.length c14)]) (by kernel_rfl) ?_ ?_
  · intro w hs; exact hs.var (k := 0) rfl 0 rfl
  refine at_eff rfl rfl ?_
  obtain ⟨b1, H18, H⟩ := bind_some H
  have hm_ := laws_szInt64SS.calls (I0 := I0) H18 hr15
  refine eff_call rfl rfl ok27 rfl rfl (show Meets Try.prog 27 ([.slice A13 p12.Items.length c14, .int .i64 p16] : List Value).toArray _ [] _ from hm_) (Mr := ([(g17, .cells #[.slice A13 p12.Items.length c14, .int .i64 p12.At] 24 (0, 0))] :: Fs)) (List.Perm.refl _) (fun v19 J20 M21 hq22 hJ23 => ?_)
  replace hle := hle.trans hJ23
  replace hr15 := hr15.mono hJ23
  obtain ⟨rfl, rfl⟩ := hq22
  refine at_seg [4] [] rfl [] [1] (L2 := [(1, .int .i64 b1)]) (obs := []) (by kernel_rfl) ?_ ?_
  · intro w hs; exact trivial
  refine at_end ?_
  refine at_thn ?_
  refine at_seq ?_
  refine at_seq ?_
  refine at_reg [] [1, 10] (L2 := [(1, .int .i64 b1), (10, .bool (decide (b1 < 0)))]) (obs := []) (by kernel_rfl) ?_ ?_
  · intro w hs; exact trivial
  refine at_thn ?_
  by_cases h24 : b1 < 0
  · rw [if_pos h24] at H
    refine at_cond_t rfl (decide_eq_true h24) ?_
    refine at_seq ?_
    refine at_reg [] [4] (L2 := [(4, .int .i64 (-1))]) (obs := []) (by kernel_rfl) ?_ ?_
    · intro w hs; exact trivial
    refine at_thn ?_
    refine at_ret ?_
    refine at_then_ret ?_
    obtain rfl := Option.some.inj H
    refine at_drop (k := 0) rfl rfl ?_
    refine at_done (vs := [.int .i64 (-1)]) (obs := []) (.inl rfl) [.tmp 4] [] rfl (by kernel_rfl) (fun w hs => trivial) (fun w hs => ⟨_, _, [], rfl, ⟨rfl, rfl⟩, hle, hs⟩)
  · rw [if_neg h24] at H
    refine at_cond_f rfl (decide_eq_false h24) ?_
    refine at_skip ?_
    refine at_thn ?_
    refine at_seq ?_
    refine at_reg [] [4] (L2 := [(4, .int .i64 b1)]) (obs := []) (by kernel_rfl) ?_ ?_
    · intro w hs; exact trivial
    refine at_thn ?_
    refine at_ret ?_
    obtain rfl := Option.some.inj H
    refine at_drop (k := 0) rfl rfl ?_
    refine at_done (vs := [.int .i64 b1]) (obs := []) (.inl rfl) [.tmp 4] [] rfl (by kernel_rfl) (fun w hs => trivial) (fun w hs => ⟨_, _, [], rfl, ⟨rfl, rfl⟩, hle, hs⟩)

/-! ### loop.example/g00146/laws.toInt64S: function 9 -/
def laws_toInt64S_l0 : Nat → (List Int) → Int → (List Int) → Option (List Int)
  | 0, _, _, _ => none
  | k + 1, x52, x57, p43 => if x57 < (p43.length : Int) then (if 0 ≤ x57 then (if x57 < (x52.length : Int) then (laws_toInt64S_l0 k (x52.set x57.toNat (rdA 0 p43 x57)) (IntKind.i64.wrap (x57 + 1)) p43) else none) else none) else (some x52)
def laws_toInt64S (k : Nat) (p43 : List Int) : Option (List Int) := if 0 ≤ (p43.length : Int) then (if (p43.length : Int) ≤ 35184372088832 then (laws_toInt64S_l0 k (List.replicate (p43.length : Int).toNat 0 : List Int) 0 p43) else none) else none
set_option maxHeartbeats 4000000 in
set_option maxRecDepth 100000 in
theorem laws_toInt64S.calls {k : Nat} {p43 : List Int} {r : (List Int)} {I0 : Imm} {A44 : Option Addr} {c45 : Nat} (H : laws_toInt64S k p43 = some r) (hr46 : Rd (Kd.int .i64) I0 A44 c45 p43) :
    Meets Try.prog 9 ([.slice A44 p43.length c45] : List Value).toArray I0 [] (fun v J M => ∃ (A_1 : Option Addr) (c_2 : Nat) (s_3 : Seg), v = .slice A_1 r.length c_2 ∧ M = [s_3] ∧ Own (Kd.int .i64) 2 J A_1 c_2 r s_3) := by
  have hle := ImmLe.refl I0
  unfold laws_toInt64S at H
  refine fn_intro (fn := Try.f9) 22 Try.func9 rfl rfl rfl (fun E Fs => ?_)
  refine at_seq ?_
  refine at_reg [] [0] (L2 := [(0, .slice A44 p43.length c45)]) (obs := []) (by kernel_rfl) ?_ ?_
  · intro w hs; exact trivial
  refine at_thn ?_
  refine at_seq ?_
  refine at_ops [0, 1, 2, 3] rfl ?_
  refine at_seg [0, 1] [2, 3] rfl [] [0, 6] (L2 := [(0, .slice A44 p43.length c45), (6, .int .i64 (p43.length : Int))]) (obs := []) (by kernel_rfl) ?_ ?_
  · intro w hs; exact trivial
  refine at_eff rfl rfl ?_
  obtain ⟨h47, H⟩ := ite_some H
  obtain ⟨h48, H⟩ := ite_some H
  obtain ⟨i_, hi_, hz_, hs_, hb_⟩ := info2
  refine eff_makeSlice (K := (Kd.int .i64)) (d := 0) rfl rfl rfl rfl und25 hi_ hz_ hs_ (fun _ => rfl) h47 (by rw [hb_]; omega) (by omega) (fun g49 s50 ho51 => ?_)
  refine at_seg [3] [] rfl [] [0, 3] (L2 := [(0, .slice A44 p43.length c45), (3, .slice (some ⟨g49, 0, none⟩ : Option Addr) (List.replicate (p43.length : Int).toNat 0 : List Int).length ((p43.length : Int).toNat))]) (obs := []) (by kernel_rfl) ?_ ?_
  · intro w hs; exact trivial
  refine at_end ?_
  refine at_thn ?_
  refine at_seq ?_
  refine at_seq ?_
  refine at_reg [] [0, 3, 4] (L2 := [(0, .slice A44 p43.length c45), (3, .slice (some ⟨g49, 0, none⟩ : Option Addr) (List.replicate (p43.length : Int).toNat 0 : List Int).length ((p43.length : Int).toNat)), (4, .int .i64 0)]) (obs := []) (by kernel_rfl) ?_ ?_
  · intro w hs; exact trivial
  refine at_thn ?_
  refine at_block ?_
  refine at_keep [0, 3, 4] (L2 := [(0, .slice A44 p43.length c45), (3, .slice (some ⟨g49, 0, none⟩ : Option Addr) (List.replicate (p43.length : Int).toNat 0 : List Int).length ((p43.length : Int).toNat)), (4, .int .i64 0)]) rfl ?_
  refine at_loop (fun k58 L I Ms => ∃ (x52 : List Int) (A53 : Option Addr) (c54 : Nat) (s55 : Seg) (x57 : Int), L = [(0, .slice A44 p43.length c45), (3, .slice A53 x52.length c54), (4, .int .i64 x57)] ∧ Ms = (s55 :: Fs) ∧ laws_toInt64S_l0 k58 x52 x57 p43 = some r ∧ ImmLe I0 I ∧ k58 ≤ k ∧ Own (Kd.int .i64) 2 I A53 c54 x52 s55 ∧ Rd (Kd.int .i64) I A44 c45 p43) ?_ ?_ k ⟨(List.replicate (p43.length : Int).toNat 0 : List Int), (some ⟨g49, 0, none⟩ : Option Addr), (p43.length : Int).toNat, s50, 0, rfl, rfl, H, hle, Nat.le_refl _, ho51, hr46⟩
  · rintro L I Ms ⟨_, _, _, _, _, rfl, rfl, H, _⟩; exact no_none H
  · clear H hle ho51 hr46
    intro k58 ih59 L I Ms h_; obtain ⟨x52, A53, c54, s55, x57, hL_, hM_, H, hle, hk60, ho56, hr46⟩ := h_; rw [hL_, hM_]; clear hL_ hM_ L Ms
    rw [laws_toInt64S_l0] at H
    refine at_seq ?_
    refine at_seq ?_
    refine at_reg [] [0, 3, 4, 11] (L2 := [(0, .slice A44 p43.length c45), (3, .slice A53 x52.length c54), (4, .int .i64 x57), (11, .bool (decide (x57 < (p43.length : Int))))]) (obs := []) (by kernel_rfl) ?_ ?_
    · intro w hs; exact trivial
    refine at_thn ?_
    by_cases h61 : x57 < (p43.length : Int)
    · rw [if_pos h61] at H
      refine at_cond_t rfl (decide_eq_true h61) ?_
      refine at_skip ?_
      refine at_thn ?_
      refine at_seq ?_
      refine at_block ?_
      refine at_ops [0, 1, 2, 3, 4, 5, 6, 7] rfl ?_
      obtain ⟨h62, H⟩ := ite_some H
      obtain ⟨h63, H⟩ := ite_some H
      refine at_seg [0, 1, 2, 3, 4, 5, 6] [7] rfl [(5, .int .i64 (rdA 0 p43 x57))] [0, 3, 4, 19, 20] (L2 := [(0, .slice A44 p43.length c45), (3, .slice A53 x52.length c54), (4, .int .i64 x57), (19, .int .i64 (rdA 0 p43 x57)), (20, .pointer (some ((A53.getD ad0).add (x57.toNat * 1))))]) (obs := [fun _ => A44.isSome = true ∧ 0 ≤ x57 ∧ x57 < ((p43.length : Nat) : Int), fun w => w.cell? ((A44.getD ad0).add (x57.toNat * 1)) = some (.int .i64 (rdA 0 p43 x57)), fun _ => A53.isSome = true ∧ 0 ≤ x57 ∧ x57 < ((x52.length : Nat) : Int)]) (by kernel_rfl) ?_ ?_
      · intro w hs; exact ⟨⟨hr46.ne x57 h62 h61, h62, h61⟩, hr46.one 0 x57 h62 h61 hs, ⟨ho56.ne x57 h62 h63, h62, h63⟩⟩
      refine at_eff rfl rfl ?_
      refine eff_storeOwn (K := (Kd.int .i64)) (u := rdA 0 p43 x57) 0 0 0 x57 rfl rfl rfl rfl ho56 rfl h62 h63 (add0 _).symm rfl (Nat.le_of_ble_eq_true (by kernel_rfl)) rfl (by rintro cs_ rfl; rfl) (fun s64 ho65 => ?_)
      refine at_eqL2 (L1 := [(0, .slice A44 p43.length c45), (3, .slice A53 x52.length c54), (4, .int .i64 x57), (19, .int .i64 (rdA 0 p43 x57)), (20, .pointer (some ((A53.getD ad0).add (x57.toNat * 1))))]) (L2 := [(0, .slice A44 p43.length c45), (3, .slice A53 (x52.set x57.toNat (rdA 0 p43 x57)).length c54), (4, .int .i64 x57), (19, .int .i64 (rdA 0 p43 x57)), (20, .pointer (some ((A53.getD ad0).add (x57.toNat * 1))))]) rfl (by simp only [List.length_set]) ?_
      refine at_end ?_
      refine at_in_norm ?_
      refine at_thn ?_
      refine at_reg [] [0, 3, 4] (L2 := [(0, .slice A44 p43.length c45), (3, .slice A53 (x52.set x57.toNat (rdA 0 p43 x57)).length c54), (4, .int .i64 (IntKind.i64.wrap (x57 + 1)))]) (obs := []) (by kernel_rfl) ?_ ?_
      · intro w hs; exact trivial
      refine at_thn ?_
      refine at_keep [0, 3, 4] (L2 := [(0, .slice A44 p43.length c45), (3, .slice A53 (x52.set x57.toNat (rdA 0 p43 x57)).length c54), (4, .int .i64 (IntKind.i64.wrap (x57 + 1)))]) rfl ?_
      exact ih59 _ (by omega) _ _ _ ⟨x52.set x57.toNat (rdA 0 p43 x57), A53, c54, s64, IntKind.i64.wrap (x57 + 1), rfl, rfl, H, hle, by omega, ho65, hr46⟩
    · rw [if_neg h61] at H
      refine at_cond_f rfl (decide_eq_false h61) ?_
      refine at_exit ?_
      refine at_then_exit ?_
      refine at_then_exit ?_
      refine at_in_hit ?_
      refine at_thn ?_
      refine at_seq ?_
      refine at_reg [] [2] (L2 := [(2, .slice A53 x52.length c54)]) (obs := []) (by kernel_rfl) ?_ ?_
      · intro w hs; exact trivial
      refine at_thn ?_
      refine at_ret ?_
      obtain rfl := Option.some.inj H
      refine at_done (vs := [.slice A53 x52.length c54]) (obs := []) (.inl rfl) [.tmp 2] [] rfl (by kernel_rfl) (fun w hs => trivial) (fun w hs => ⟨_, _, [s55], rfl, ⟨A53, c54, s55, rfl, rfl, ho56⟩, hle, hs⟩)

/-! ### loop.example/g00146/laws.toInt64SS: function 31 -/
def laws_toInt64SS_l0 : Nat → (List (List Int)) → Int → (List (List Int)) → Option (List (List Int))
  | 0, _, _, _ => none
  | k + 1, x35, x40, p26 => if x40 < (p26.length : Int) then (if 0 ≤ x40 then ((laws_toInt64S k (rdA [] p26 x40)).bind fun b2 => (if x40 < (x35.length : Int) then (laws_toInt64SS_l0 k (x35.set x40.toNat b2) (IntKind.i64.wrap (x40 + 1)) p26) else none)) else none) else (some x35)
def laws_toInt64SS (k : Nat) (p26 : List (List Int)) : Option (List (List Int)) := if 0 ≤ (p26.length : Int) then (if (p26.length : Int) ≤ 11728124029610 then (laws_toInt64SS_l0 k (List.replicate (p26.length : Int).toNat [] : List (List Int)) 0 p26) else none) else none
set_option maxHeartbeats 4000000 in
set_option maxRecDepth 100000 in
theorem laws_toInt64SS.calls {k : Nat} {p26 : List (List Int)} {r : (List (List Int))} {I0 : Imm} {A27 : Option Addr} {c28 : Nat} (H : laws_toInt64SS k p26 = some r) (hr29 : Rd (Kd.slice (Kd.int .i64)) I0 A27 c28 p26) :
    Meets Try.prog 31 ([.slice A27 p26.length c28] : List Value).toArray I0 [] (fun v J M => ∃ (A_1 : Option Addr) (c_2 : Nat) (s_3 : Seg), v = .slice A_1 r.length c_2 ∧ M = [s_3] ∧ DOwn (DK.sl (Kd.int .i64) 2) 25 J A_1 c_2 r s_3) := by
  have hle := ImmLe.refl I0
  unfold laws_toInt64SS at H
  refine fn_intro (fn := Try.f31) 23 Try.func31 rfl rfl rfl (fun E Fs => ?_)
  refine at_seq ?_
  refine at_reg [] [0] (L2 := [(0, .slice A27 p26.length c28)]) (obs := []) (by kernel_rfl) ?_ ?_
  · intro w hs; exact trivial
  refine at_thn ?_
  refine at_seq ?_
  refine at_ops [0, 1, 2, 3] rfl ?_
  refine at_seg [0, 1] [2, 3] rfl [] [0, 6] (L2 := [(0, .slice A27 p26.length c28), (6, .int .i64 (p26.length : Int))]) (obs := []) (by kernel_rfl) ?_ ?_
  · intro w hs; exact trivial
  refine at_eff rfl rfl ?_
  obtain ⟨h30, H⟩ := ite_some H
  obtain ⟨h31, H⟩ := ite_some H
  obtain ⟨i_, hi_, hz_, hs_, hb_⟩ := info25
  refine eff_makeD (D := (DK.sl (Kd.int .i64) 2)) (d := []) rfl rfl rfl rfl und22 hi_ hz_ hs_ rfl rfl h30 (by rw [hb_]; omega) (by omega) (fun g32 s33 ho34 => ?_)
  refine at_seg [3] [] rfl [] [0, 3] (L2 := [(0, .slice A27 p26.length c28), (3, .slice (some ⟨g32, 0, none⟩ : Option Addr) (List.replicate (p26.length : Int).toNat [] : List (List Int)).length ((p26.length : Int).toNat))]) (obs := []) (by kernel_rfl) ?_ ?_
  · intro w hs; exact trivial
  refine at_end ?_
  refine at_thn ?_
  refine at_seq ?_
  refine at_seq ?_
  refine at_reg [] [0, 3, 4] (L2 := [(0, .slice A27 p26.length c28), (3, .slice (some ⟨g32, 0, none⟩ : Option Addr) (List.replicate (p26.length : Int).toNat [] : List (List Int)).length ((p26.length : Int).toNat)), (4, .int .i64 0)]) (obs := []) (by kernel_rfl) ?_ ?_
  · intro w hs; exact trivial
  refine at_thn ?_
  refine at_block ?_
  refine at_keep [0, 3, 4] (L2 := [(0, .slice A27 p26.length c28), (3, .slice (some ⟨g32, 0, none⟩ : Option Addr) (List.replicate (p26.length : Int).toNat [] : List (List Int)).length ((p26.length : Int).toNat)), (4, .int .i64 0)]) rfl ?_
  refine at_loop (fun k41 L I Ms => ∃ (x35 : List (List Int)) (A36 : Option Addr) (c37 : Nat) (s38 : Seg) (x40 : Int), L = [(0, .slice A27 p26.length c28), (3, .slice A36 x35.length c37), (4, .int .i64 x40)] ∧ Ms = (s38 :: Fs) ∧ laws_toInt64SS_l0 k41 x35 x40 p26 = some r ∧ ImmLe I0 I ∧ k41 ≤ k ∧ DOwn (DK.sl (Kd.int .i64) 2) 25 I A36 c37 x35 s38 ∧ Rd (Kd.slice (Kd.int .i64)) I A27 c28 p26) ?_ ?_ k ⟨(List.replicate (p26.length : Int).toNat [] : List (List Int)), (some ⟨g32, 0, none⟩ : Option Addr), (p26.length : Int).toNat, s33, 0, rfl, rfl, H, hle, Nat.le_refl _, ho34, hr29⟩
  · rintro L I Ms ⟨_, _, _, _, _, rfl, rfl, H, _⟩; exact no_none H
  · clear H hle ho34 hr29
    intro k41 ih42 L I Ms h_; obtain ⟨x35, A36, c37, s38, x40, hL_, hM_, H, hle, hk43, ho39, hr29⟩ := h_; rw [hL_, hM_]; clear hL_ hM_ L Ms
    rw [laws_toInt64SS_l0] at H
    refine at_seq ?_
    refine at_seq ?_
    refine at_reg [] [0, 3, 4, 11] (L2 := [(0, .slice A27 p26.length c28), (3, .slice A36 x35.length c37), (4, .int .i64 x40), (11, .bool (decide (x40 < (p26.length : Int))))]) (obs := []) (by kernel_rfl) ?_ ?_
    · intro w hs; exact trivial
    refine at_thn ?_
    by_cases h44 : x40 < (p26.length : Int)
    · rw [if_pos h44] at H
      refine at_cond_t rfl (decide_eq_true h44) ?_
      refine at_skip ?_
      refine at_thn ?_
      refine at_seq ?_
      refine at_block ?_
      refine at_ops [0, 1, 2, 3, 4, 5, 6, 7, 8] rfl ?_
      obtain ⟨h45, H⟩ := ite_some H
      obtain ⟨cs50, hz51, hc46⟩ := hr29.elem [] x40 h45 h44
      obtain ⟨A47, c48, rfl, hr49⟩ := hz51
      refine at_seg [0, 1, 2, 3, 4, 5] [6, 7, 8] rfl [(5, .slice A47 (rdA [] p26 x40).length c48)] [0, 3, 4, 14, 15, 19] (L2 := [(0, .slice A27 p26.length c28), (3, .slice A36 x35.length c37), (4, .int .i64 x40), (14, .slice A36 x35.length c37), (15, .int .i64 x40), (19, .slice A47 (rdA [] p26 x40).length c48)]) (obs := [fun _ => A27.isSome = true ∧ 0 ≤ x40 ∧ x40 < ((p26.length : Nat) : Int), fun w => w.cell? ((A27.getD ad0).add (x40.toNat * 1)) = some (.slice A47 (rdA [] p26 x40).length c48)]) (by kernel_rfl) ?_ ?_
      · intro w hs; exact ⟨⟨hr29.ne x40 h45 h44, h45, h44⟩, cell0 (hc46 0 _ rfl hs)⟩
      refine at_eff rfl rfl ?_
      obtain ⟨b2, H52, H⟩ := bind_some H
      have hm_ := laws_toInt64S.calls (I0 := I) H52 hr49
      refine eff_call rfl rfl ok9 rfl rfl (show Meets Try.prog 9 ([.slice A47 (rdA [] p26 x40).length c48] : List Value).toArray _ [] _ from hm_) (Mr := (s38 :: Fs)) (List.Perm.refl _) (fun v53 J54 M55 hq56 hJ57 => ?_)
      replace hle := hle.trans hJ57
      replace ho39 := ho39.mono hJ57
      replace hr29 := hr29.mono hJ57
      replace hr49 := hr49.mono hJ57
      obtain ⟨A58, c59, s60, rfl, rfl, ho61⟩ := hq56
      obtain ⟨h62, H⟩ := ite_some H
      refine at_seg [7] [8] rfl [] [0, 3, 4, 20, 21] (L2 := [(0, .slice A27 p26.length c28), (3, .slice A36 x35.length c37), (4, .int .i64 x40), (20, .slice A58 b2.length c59), (21, .pointer (some ((A36.getD ad0).add (x40.toNat * 1))))]) (obs := [fun _ => A36.isSome = true ∧ 0 ≤ x40 ∧ x40 < ((x35.length : Nat) : Int)]) (by kernel_rfl) ?_ ?_
      · intro w hs; exact ⟨ho39.ne x40 h45 h62, h45, h62⟩
      refine at_eff rfl rfl ?_
      refine eff_storeDrow (D := (DK.sl (Kd.int .i64) 2)) (u := b2) (d := []) (i := x40) 0 0 0 rfl rfl rfl rfl ho39 h45 h62 rfl rfl (add0 _).symm rfl (Nat.le_of_ble_eq_true (by kernel_rfl)) rfl (fun _ _ => rfl) ho61 (fun s63 hd64 => ?_)
      have he65 : rdA [] (x35.set x40.toNat b2) x40 = b2 := rdA_set _ _ h45 h62
      have hd66 : DOwn (DK.sl (Kd.int .i64) 2) 25 J54 A36 c37 (x35.set x40.toNat b2) s63 := hd64.own
      have hi67 : OwnIn (Kd.int .i64) 2 J54 A58 c59 b2 s63 := by have h_ := hd64.inn; rw [he65] at h_; exact h_
      refine at_keep [0, 3, 4, 21] (L2 := [(0, .slice A27 p26.length c28), (3, .slice A36 x35.length c37), (4, .int .i64 x40), (21, .pointer (some ((A36.getD ad0).add (x40.toNat * 1))))]) rfl ?_
      refine at_eqL2 (L1 := [(0, .slice A27 p26.length c28), (3, .slice A36 x35.length c37), (4, .int .i64 x40), (21, .pointer (some ((A36.getD ad0).add (x40.toNat * 1))))]) (L2 := [(0, .slice A27 p26.length c28), (3, .slice A36 (x35.set x40.toNat b2).length c37), (4, .int .i64 x40), (21, .pointer (some ((A36.getD ad0).add (x40.toNat * 1))))]) rfl (by simp only [List.length_set]) ?_
      have h68 : x40 < ((x35.set x40.toNat b2).length : Int) := by simp only [List.length_set]; exact h62
      refine at_end ?_
      refine at_in_norm ?_
      refine at_thn ?_
      refine at_reg [] [0, 3, 4] (L2 := [(0, .slice A27 p26.length c28), (3, .slice A36 (x35.set x40.toNat b2).length c37), (4, .int .i64 (IntKind.i64.wrap (x40 + 1)))]) (obs := []) (by kernel_rfl) ?_ ?_
      · intro w hs; exact trivial
      refine at_thn ?_
      refine at_keep [0, 3, 4] (L2 := [(0, .slice A27 p26.length c28), (3, .slice A36 (x35.set x40.toNat b2).length c37), (4, .int .i64 (IntKind.i64.wrap (x40 + 1)))]) rfl ?_
      exact ih42 _ (by omega) _ _ _ ⟨x35.set x40.toNat b2, A36, c37, s63, IntKind.i64.wrap (x40 + 1), rfl, rfl, H, hle, by omega, hd66, hr29⟩
    · rw [if_neg h44] at H
      refine at_cond_f rfl (decide_eq_false h44) ?_
      refine at_exit ?_
      refine at_then_exit ?_
      refine at_then_exit ?_
      refine at_in_hit ?_
      refine at_thn ?_
      refine at_seq ?_
      refine at_reg [] [2] (L2 := [(2, .slice A36 x35.length c37)]) (obs := []) (by kernel_rfl) ?_ ?_
      · intro w hs; exact trivial
      refine at_thn ?_
      refine at_ret ?_
      obtain rfl := Option.some.inj H
      refine at_done (vs := [.slice A36 x35.length c37]) (obs := []) (.inl rfl) [.tmp 2] [] rfl (by kernel_rfl) (fun w hs => trivial) (fun w hs => ⟨_, _, [s38], rfl, ⟨A36, c37, s38, rfl, rfl, ho39⟩, hle, hs⟩)

/-! ### loop.example/g00146/laws.toRing: function 8 -/
def laws_toRing (k : Nat) (p19 : T_laws_Ring) : Option T_impl_Ring := (laws_toInt64SS k p19.Items).bind fun b2 => (some (⟨b2, p19.At⟩ : T_impl_Ring))
set_option maxHeartbeats 4000000 in
set_option maxRecDepth 100000 in
theorem laws_toRing.calls {k : Nat} {p19 : T_laws_Ring} {r : T_impl_Ring} {I0 : Imm} {A20 : Option Addr} {c21 : Nat} (H : laws_toRing k p19 = some r) (hr22 : Rd (Kd.slice (Kd.int .i64)) I0 A20 c21 p19.Items) :
    Meets Try.prog 8 ([.agg #[.slice A20 p19.Items.length c21, .int .i64 p19.At]] : List Value).toArray I0 [] (fun v J M => ∃ (A_1 : Option Addr) (c_2 : Nat) (s_3 : Seg), v = .agg #[.slice A_1 r.Items.length c_2, .int .i64 r.At] ∧ M = [s_3] ∧ DOwn (DK.sl (Kd.int .i64) 2) 25 J A_1 c_2 r.Items s_3) := by
  have hle := ImmLe.refl I0
  unfold laws_toRing at H
  refine fn_intro (fn := Try.f8) 12 Try.func8 rfl rfl rfl (fun E Fs => ?_)
  refine at_seq ?_
  refine at_ops [0, 1] rfl ?_
  refine at_eff rfl rfl ?_
  refine eff_box rfl rfl rfl #[.slice A20 p19.Items.length c21, .int .i64 p19.At] rfl (fun g23 => ?_)
  refine at_eff rfl rfl ?_
  obtain ⟨i_, hi_, hz_, _, _⟩ := info27
  refine eff_alloc rfl rfl hi_ hz_ #[.slice none ([] : List (List Int)).length 0, .int .i64 0] rfl (fun g24 => ?_)
  refine at_end ?_
  refine at_thn ?_
  refine at_seq ?_
  refine at_ops [0] rfl ?_
  refine at_eff rfl rfl ?_
  obtain ⟨i_, hi_, hz_, _, _⟩ := info27
  refine eff_alloc rfl rfl hi_ hz_ #[.slice none ([] : List (List Int)).length 0, .int .i64 0] rfl (fun g25 => ?_)
  refine at_end ?_
  refine at_thn ?_
  refine at_seq ?_
  refine at_ops [0, 1, 2, 3, 4] rfl ?_
  refine at_seg [0, 1] [2, 3, 4] rfl [(1, .slice A20 p19.Items.length c21)] [1, 2, 3, 5] (L2 := [(1, .pointer (some ⟨g23, 0, none⟩)), (2, .pointer (some ⟨g24, 0, none⟩)), (3, .pointer (some ⟨g25, 0, none⟩)), (5, .slice A20 p19.Items.length c21)]) (obs := [fun w => w.cell? ⟨g23, 0, none⟩ = some (.slice A20 p19.Items.length c21)]) (by kernel_rfl) ?_ ?_
  · intro w hs; exact hs.var (k := 2) rfl 0 rfl
  refine at_eff rfl rfl ?_
  obtain ⟨b2, H26, H⟩ := bind_some H
  have hm_ := laws_toInt64SS.calls (I0 := I0) H26 hr22
  refine eff_call rfl rfl ok31 rfl rfl (show Meets Try.prog 31 ([.slice A20 p19.Items.length c21] : List Value).toArray _ [] _ from hm_) (Mr := ([(g25, .cells #[.slice none ([] : List (List Int)).length 0, .int .i64 0] 27 (0, 0))] :: [(g24, .cells #[.slice none ([] : List (List Int)).length 0, .int .i64 0] 27 (0, 0))] :: [(g23, .cells #[.slice A20 p19.Items.length c21, .int .i64 p19.At] 24 (0, 0))] :: Fs)) (List.Perm.refl _) (fun v27 J28 M29 hq30 hJ31 => ?_)
  replace hle := hle.trans hJ31
  replace hr22 := hr22.mono hJ31
  obtain ⟨A32, c33, s34, rfl, rfl, ho35⟩ := hq30
  refine at_seg [3] [4] rfl [] [1, 2, 3, 6, 7] (L2 := [(1, .pointer (some ⟨g23, 0, none⟩)), (2, .pointer (some ⟨g24, 0, none⟩)), (3, .pointer (some ⟨g25, 0, none⟩)), (6, .slice A32 b2.length c33), (7, .pointer (some ⟨g25, 0, none⟩))]) (obs := []) (by kernel_rfl) ?_ ?_
  · intro w hs; exact trivial
  refine at_eff rfl rfl ?_
  refine eff_store 1 rfl rfl rfl rfl rfl rfl (.inl (Nat.le_refl _)) rfl (Nat.le_of_ble_eq_true (by kernel_rfl)) rfl ?_
  refine at_end ?_
  refine at_thn ?_
  refine at_seq ?_
  refine at_ops [0, 1, 2, 3] rfl ?_
  refine at_seg [0, 1, 2] [3] rfl [(1, .int .i64 p19.At)] [2, 3, 9, 10] (L2 := [(2, .pointer (some ⟨g24, 0, none⟩)), (3, .pointer (some ⟨g25, 0, none⟩)), (9, .int .i64 p19.At), (10, .pointer (some ⟨g25, 1, none⟩))]) (obs := [fun w => w.cell? ⟨g23, 1, none⟩ = some (.int .i64 p19.At)]) (by kernel_rfl) ?_ ?_
  · intro w hs; exact hs.var (k := 3) rfl 1 rfl
  refine at_eff rfl rfl ?_
  refine eff_store 1 rfl rfl rfl rfl rfl rfl (.inl (Nat.le_refl _)) rfl (Nat.le_of_ble_eq_true (by kernel_rfl)) rfl ?_
  refine at_end ?_
  refine at_thn ?_
  refine at_seq ?_
  refine at_ops [0, 1] rfl ?_
  refine at_seg [0] [1] rfl [(0, .agg #[.slice A32 b2.length c33, .int .i64 p19.At])] [2, 11] (L2 := [(2, .pointer (some ⟨g24, 0, none⟩)), (11, .agg #[.slice A32 b2.length c33, .int .i64 p19.At])]) (obs := [fun w => CellsAt w ⟨g25, 0, none⟩ [.slice A32 b2.length c33, .int .i64 p19.At] 0]) (by kernel_rfl) ?_ ?_
  · intro w hs; exact cellsV (k := 1) hs rfl _ 0 (Nat.le_of_ble_eq_true (by kernel_rfl)) rfl
  refine at_eff rfl rfl ?_
  refine eff_store 2 rfl rfl rfl rfl rfl rfl (.inl (Nat.le_refl _)) rfl (Nat.le_of_ble_eq_true (by kernel_rfl)) rfl ?_
  refine at_end ?_
  refine at_thn ?_
  refine at_ret ?_
  obtain rfl := Option.some.inj H
  refine at_drop (k := 1) rfl rfl ?_
  refine at_drop (k := 2) rfl rfl ?_
  refine at_done (vs := [.agg #[.slice A32 b2.length c33, .int .i64 p19.At]]) (obs := [fun w => CellsAt w ⟨g24, 0, none⟩ [.slice A32 b2.length c33, .int .i64 p19.At] 0]) (.inl rfl) [.cell 2 27] [(2, .agg #[.slice A32 b2.length c33, .int .i64 p19.At])] rfl (by kernel_rfl) (fun w hs => cellsV (k := 1) hs rfl _ 0 (Nat.le_of_ble_eq_true (by kernel_rfl)) rfl) (fun w hs => ⟨_, _, [s34], rfl, ⟨A32, c33, s34, rfl, rfl, ho35⟩, hle, (hs.tail (perm_at (k := 1) rfl))⟩)

/-! ### loop.example/g00146/spec.l01Point: function 44 -/
def spec_l01Point (p90 : Int) : Option Bool := if p90 ≥ 0 then (if p90 ≤ 1114111 then (if p90 ≥ 55296 then (some (!(decide (p90 ≤ 57343)))) else (some true)) else (some false)) else (some false)
set_option maxHeartbeats 4000000 in
set_option maxRecDepth 100000 in
theorem spec_l01Point.calls {p90 : Int} {r : Bool} {I0 : Imm} (H : spec_l01Point p90 = some r) :
    Meets Try.prog 44 ([.int .i64 p90] : List Value).toArray I0 [] (fun v J M => v = .bool r ∧ M = []) := by
  have hle := ImmLe.refl I0
  unfold spec_l01Point at H
  refine fn_intro (fn := Try.f44) 18 Try.func44 rfl rfl rfl (fun E Fs => ?_)
  refine at_seq ?_
  refine at_reg [] [0] (L2 := [(0, .int .i64 p90)]) (obs := []) (by kernel_rfl) ?_ ?_
  · intro w hs; exact trivial
  refine at_thn ?_
  refine at_seq ?_
  by_cases h91 : p90 ≥ 0
  · rw [if_pos h91] at H
    by_cases h92 : p90 ≤ 1114111
    · rw [if_pos h92] at H
      by_cases h93 : p90 ≥ 55296
      · rw [if_pos h93] at H
        refine at_reg [(2, .bool true), (6, .bool true), (9, .bool true)] [2] (L2 := [(2, .bool (!(decide (p90 ≤ 57343))))]) (obs := [fun _ => (.bool (decide (p90 ≥ 0)) : Value) = .bool true, fun _ => (.bool (decide (p90 ≤ 1114111)) : Value) = .bool true, fun _ => (.bool (decide (p90 ≥ 55296)) : Value) = .bool true]) (by kernel_rfl) ?_ ?_
        · intro w hs; exact ⟨congrArg Value.bool (decide_eq_true h91), congrArg Value.bool (decide_eq_true h92), congrArg Value.bool (decide_eq_true h93)⟩
        refine at_thn ?_
        refine at_ret ?_
        obtain rfl := Option.some.inj H
        refine at_done (vs := [.bool (!(decide (p90 ≤ 57343)))]) (obs := []) (.inl rfl) [.tmp 2] [] rfl (by kernel_rfl) (fun w hs => trivial) (fun w hs => ⟨_, _, [], rfl, ⟨rfl, rfl⟩, hle, hs⟩)
      · rw [if_neg h93] at H
        refine at_reg [(2, .bool true), (6, .bool true), (9, .bool false)] [2] (L2 := [(2, .bool true)]) (obs := [fun _ => (.bool (decide (p90 ≥ 0)) : Value) = .bool true, fun _ => (.bool (decide (p90 ≤ 1114111)) : Value) = .bool true, fun _ => (.bool (decide (p90 ≥ 55296)) : Value) = .bool false]) (by kernel_rfl) ?_ ?_
        · intro w hs; exact ⟨congrArg Value.bool (decide_eq_true h91), congrArg Value.bool (decide_eq_true h92), congrArg Value.bool (decide_eq_false h93)⟩
        refine at_thn ?_
        refine at_ret ?_
        obtain rfl := Option.some.inj H
        refine at_done (vs := [.bool true]) (obs := []) (.inl rfl) [.tmp 2] [] rfl (by kernel_rfl) (fun w hs => trivial) (fun w hs => ⟨_, _, [], rfl, ⟨rfl, rfl⟩, hle, hs⟩)
    · rw [if_neg h92] at H
      refine at_reg [(2, .bool true), (6, .bool false)] [2] (L2 := [(2, .bool false)]) (obs := [fun _ => (.bool (decide (p90 ≥ 0)) : Value) = .bool true, fun _ => (.bool (decide (p90 ≤ 1114111)) : Value) = .bool false]) (by kernel_rfl) ?_ ?_
      · intro w hs; exact ⟨congrArg Value.bool (decide_eq_true h91), congrArg Value.bool (decide_eq_false h92)⟩
      refine at_thn ?_
      refine at_ret ?_
      obtain rfl := Option.some.inj H
      refine at_done (vs := [.bool false]) (obs := []) (.inl rfl) [.tmp 2] [] rfl (by kernel_rfl) (fun w hs => trivial) (fun w hs => ⟨_, _, [], rfl, ⟨rfl, rfl⟩, hle, hs⟩)
  · rw [if_neg h91] at H
    refine at_reg [(2, .bool false)] [2] (L2 := [(2, .bool false)]) (obs := [fun _ => (.bool (decide (p90 ≥ 0)) : Value) = .bool false]) (by kernel_rfl) ?_ ?_
    · intro w hs; exact congrArg Value.bool (decide_eq_false h91)
    refine at_thn ?_
    refine at_ret ?_
    obtain rfl := Option.some.inj H
    refine at_done (vs := [.bool false]) (obs := []) (.inl rfl) [.tmp 2] [] rfl (by kernel_rfl) (fun w hs => trivial) (fun w hs => ⟨_, _, [], rfl, ⟨rfl, rfl⟩, hle, hs⟩)

/-! ### loop.example/g00146/spec.PointsRight: function 20 -/
def spec_PointsRight_l0 : Nat → Int → (List Int) → Option Bool
  | 0, _, _ => none
  | k + 1, x88, p83 => if x88 < (p83.length : Int) then (if 0 ≤ x88 then ((spec_l01Point (rdA 0 p83 x88)).bind fun b4 => (if b4 = true then (spec_PointsRight_l0 k (IntKind.i64.wrap (x88 + 1)) p83) else (some false))) else none) else (some true)
def spec_PointsRight (k : Nat) (p83 : List Int) : Option Bool := if (p83.length : Int) > 300 then (some false) else (spec_PointsRight_l0 k 0 p83)
set_option maxHeartbeats 4000000 in
set_option maxRecDepth 100000 in
theorem spec_PointsRight.calls {k : Nat} {p83 : List Int} {r : Bool} {I0 : Imm} {A84 : Option Addr} {c85 : Nat} (H : spec_PointsRight k p83 = some r) (hr86 : Rd (Kd.int .i64) I0 A84 c85 p83) :
    Meets Try.prog 20 ([.slice A84 p83.length c85] : List Value).toArray I0 [] (fun v J M => v = .bool r ∧ M = []) := by
  have hle := ImmLe.refl I0
  unfold spec_PointsRight at H
  refine fn_intro (fn := Try.f20) 19 Try.func20 rfl rfl rfl (fun E Fs => ?_)
  refine at_seq ?_
  refine at_reg [] [0] (L2 := [(0, .slice A84 p83.length c85)]) (obs := []) (by kernel_rfl) ?_ ?_
  · intro w hs; exact trivial
  refine at_thn ?_
  refine at_seq ?_
  refine at_seq ?_
  refine at_reg [] [0, 6] (L2 := [(0, .slice A84 p83.length c85), (6, .bool (decide ((p83.length : Int) > 300)))]) (obs := []) (by kernel_rfl) ?_ ?_
  · intro w hs; exact trivial
  refine at_thn ?_
  by_cases h87 : (p83.length : Int) > 300
  · rw [if_pos h87] at H
    refine at_cond_t rfl (decide_eq_true h87) ?_
    refine at_seq ?_
    refine at_reg [] [2] (L2 := [(2, .bool false)]) (obs := []) (by kernel_rfl) ?_ ?_
    · intro w hs; exact trivial
    refine at_thn ?_
    refine at_ret ?_
    refine at_then_ret ?_
    obtain rfl := Option.some.inj H
    refine at_done (vs := [.bool false]) (obs := []) (.inl rfl) [.tmp 2] [] rfl (by kernel_rfl) (fun w hs => trivial) (fun w hs => ⟨_, _, [], rfl, ⟨rfl, rfl⟩, hle, hs⟩)
  · rw [if_neg h87] at H
    refine at_cond_f rfl (decide_eq_false h87) ?_
    refine at_skip ?_
    refine at_thn ?_
    refine at_seq ?_
    refine at_seq ?_
    refine at_reg [] [0, 3] (L2 := [(0, .slice A84 p83.length c85), (3, .int .i64 0)]) (obs := []) (by kernel_rfl) ?_ ?_
    · intro w hs; exact trivial
    refine at_thn ?_
    refine at_block ?_
    refine at_keep [0, 3] (L2 := [(0, .slice A84 p83.length c85), (3, .int .i64 0)]) rfl ?_
    refine at_loop (fun k89 L I Ms => ∃ (x88 : Int), L = [(0, .slice A84 p83.length c85), (3, .int .i64 x88)] ∧ Ms = ([] ++ Fs) ∧ spec_PointsRight_l0 k89 x88 p83 = some r ∧ ImmLe I0 I ∧ k89 ≤ k ∧ Rd (Kd.int .i64) I A84 c85 p83) ?_ ?_ k ⟨0, rfl, rfl, H, hle, Nat.le_refl _, hr86⟩
    · rintro L I Ms ⟨_, rfl, rfl, H, _⟩; exact no_none H
    · clear H hle hr86
      intro k89 ih90 L I Ms h_; obtain ⟨x88, hL_, hM_, H, hle, hk91, hr86⟩ := h_; rw [hL_, hM_]; clear hL_ hM_ L Ms
      rw [spec_PointsRight_l0] at H
      refine at_seq ?_
      refine at_seq ?_
      refine at_reg [] [0, 3, 10] (L2 := [(0, .slice A84 p83.length c85), (3, .int .i64 x88), (10, .bool (decide (x88 < (p83.length : Int))))]) (obs := []) (by kernel_rfl) ?_ ?_
      · intro w hs; exact trivial
      refine at_thn ?_
      by_cases h92 : x88 < (p83.length : Int)
      · rw [if_pos h92] at H
        refine at_cond_t rfl (decide_eq_true h92) ?_
        refine at_skip ?_
        refine at_thn ?_
        refine at_seq ?_
        refine at_block ?_
        refine at_seq ?_
        refine at_ops [0, 1, 2, 3, 4, 5] rfl ?_
        obtain ⟨h93, H⟩ := ite_some H
        refine at_seg [0, 1, 2, 3] [4, 5] rfl [(3, .int .i64 (rdA 0 p83 x88))] [0, 3, 16] (L2 := [(0, .slice A84 p83.length c85), (3, .int .i64 x88), (16, .int .i64 (rdA 0 p83 x88))]) (obs := [fun _ => A84.isSome = true ∧ 0 ≤ x88 ∧ x88 < ((p83.length : Nat) : Int), fun w => w.cell? ((A84.getD ad0).add (x88.toNat * 1)) = some (.int .i64 (rdA 0 p83 x88))]) (by kernel_rfl) ?_ ?_
        · intro w hs; exact ⟨⟨hr86.ne x88 h93 h92, h93, h92⟩, hr86.one 0 x88 h93 h92 hs⟩
        refine at_eff rfl rfl ?_
        obtain ⟨b4, H94, H⟩ := bind_some H
        have hm_ := spec_l01Point.calls (I0 := I) H94
        refine eff_call rfl rfl ok44 rfl rfl (show Meets Try.prog 44 ([.int .i64 (rdA 0 p83 x88)] : List Value).toArray _ [] _ from hm_) (Mr := (Fs)) (List.Perm.refl _) (fun v95 J96 M97 hq98 hJ99 => ?_)
        replace hle := hle.trans hJ99
        replace hr86 := hr86.mono hJ99
        obtain ⟨rfl, rfl⟩ := hq98
        refine at_seg [5] [] rfl [] [0, 3, 18] (L2 := [(0, .slice A84 p83.length c85), (3, .int .i64 x88), (18, .bool (!b4))]) (obs := []) (by kernel_rfl) ?_ ?_
        · intro w hs; exact trivial
        refine at_end ?_
        refine at_thn ?_
        by_cases h100 : b4 = true
        · rw [if_pos h100] at H
          refine at_cond_f rfl (not_ff (h100)) ?_
          refine at_skip ?_
          refine at_in_norm ?_
          refine at_thn ?_
          refine at_reg [] [0, 3] (L2 := [(0, .slice A84 p83.length c85), (3, .int .i64 (IntKind.i64.wrap (x88 + 1)))]) (obs := []) (by kernel_rfl) ?_ ?_
          · intro w hs; exact trivial
          refine at_thn ?_
          refine at_keep [0, 3] (L2 := [(0, .slice A84 p83.length c85), (3, .int .i64 (IntKind.i64.wrap (x88 + 1)))]) rfl ?_
          exact ih90 _ (by omega) _ _ _ ⟨IntKind.i64.wrap (x88 + 1), rfl, rfl, H, hle, by omega, hr86⟩
        · rw [if_neg h100] at H
          refine at_cond_t rfl (not_tt (ff_of h100)) ?_
          refine at_seq ?_
          refine at_reg [] [2] (L2 := [(2, .bool false)]) (obs := []) (by kernel_rfl) ?_ ?_
          · intro w hs; exact trivial
          refine at_thn ?_
          refine at_ret ?_
          refine at_in_ret ?_
          refine at_then_ret ?_
          refine at_then_ret ?_
          refine at_in_ret ?_
          refine at_then_ret ?_
          obtain rfl := Option.some.inj H
          refine at_done (vs := [.bool false]) (obs := []) (.inl rfl) [.tmp 2] [] rfl (by kernel_rfl) (fun w hs => trivial) (fun w hs => ⟨_, _, [], rfl, ⟨rfl, rfl⟩, hle, hs⟩)
      · rw [if_neg h92] at H
        refine at_cond_f rfl (decide_eq_false h92) ?_
        refine at_exit ?_
        refine at_then_exit ?_
        refine at_then_exit ?_
        refine at_in_hit ?_
        refine at_thn ?_
        refine at_seq ?_
        refine at_reg [] [2] (L2 := [(2, .bool true)]) (obs := []) (by kernel_rfl) ?_ ?_
        · intro w hs; exact trivial
        refine at_thn ?_
        refine at_ret ?_
        obtain rfl := Option.some.inj H
        refine at_done (vs := [.bool true]) (obs := []) (.inl rfl) [.tmp 2] [] rfl (by kernel_rfl) (fun w hs => trivial) (fun w hs => ⟨_, _, [], rfl, ⟨rfl, rfl⟩, hle, hs⟩)

/-! ### loop.example/g00146/spec.l04Items: function 43 -/
def spec_l04Items_l0 : Nat → Int → (List (List Int)) → Option Bool
  | 0, _, _ => none
  | k + 1, x62, p56 => if x62 < (p56.length : Int) then (if 0 ≤ x62 then (if ((rdA [] p56 x62).length : Int) = 0 then (some false) else ((spec_PointsRight k (rdA [] p56 x62)).bind fun b4 => (if b4 = true then (spec_l04Items_l0 k (IntKind.i64.wrap (x62 + 1)) p56) else (some false)))) else none) else (some true)
def spec_l04Items (k : Nat) (p56 : List (List Int)) (p60 : Int) : Option Bool := if (p56.length : Int) > p60 then (some false) else (spec_l04Items_l0 k 0 p56)
set_option maxHeartbeats 4000000 in
set_option maxRecDepth 100000 in
theorem spec_l04Items.calls {k : Nat} {p56 : List (List Int)} {p60 : Int} {r : Bool} {I0 : Imm} {A57 : Option Addr} {c58 : Nat} (H : spec_l04Items k p56 p60 = some r) (hr59 : Rd (Kd.slice (Kd.int .i64)) I0 A57 c58 p56) :
    Meets Try.prog 43 ([.slice A57 p56.length c58, .int .i64 p60] : List Value).toArray I0 [] (fun v J M => v = .bool r ∧ M = []) := by
  have hle := ImmLe.refl I0
  unfold spec_l04Items at H
  refine fn_intro (fn := Try.f43) 30 Try.func43 rfl rfl rfl (fun E Fs => ?_)
  refine at_seq ?_
  refine at_reg [] [0, 1] (L2 := [(0, .slice A57 p56.length c58), (1, .int .i64 p60)]) (obs := []) (by kernel_rfl) ?_ ?_
  · intro w hs; exact trivial
  refine at_thn ?_
  refine at_seq ?_
  refine at_seq ?_
  refine at_reg [] [0, 9] (L2 := [(0, .slice A57 p56.length c58), (9, .bool (decide ((p56.length : Int) > p60)))]) (obs := []) (by kernel_rfl) ?_ ?_
  · intro w hs; exact trivial
  refine at_thn ?_
  by_cases h61 : (p56.length : Int) > p60
  · rw [if_pos h61] at H
    refine at_cond_t rfl (decide_eq_true h61) ?_
    refine at_seq ?_
    refine at_reg [] [4] (L2 := [(4, .bool false)]) (obs := []) (by kernel_rfl) ?_ ?_
    · intro w hs; exact trivial
    refine at_thn ?_
    refine at_ret ?_
    refine at_then_ret ?_
    obtain rfl := Option.some.inj H
    refine at_done (vs := [.bool false]) (obs := []) (.inl rfl) [.tmp 4] [] rfl (by kernel_rfl) (fun w hs => trivial) (fun w hs => ⟨_, _, [], rfl, ⟨rfl, rfl⟩, hle, hs⟩)
  · rw [if_neg h61] at H
    refine at_cond_f rfl (decide_eq_false h61) ?_
    refine at_skip ?_
    refine at_thn ?_
    refine at_seq ?_
    refine at_seq ?_
    refine at_reg [] [0, 5] (L2 := [(0, .slice A57 p56.length c58), (5, .int .i64 0)]) (obs := []) (by kernel_rfl) ?_ ?_
    · intro w hs; exact trivial
    refine at_thn ?_
    refine at_block ?_
    refine at_keep [0, 5] (L2 := [(0, .slice A57 p56.length c58), (5, .int .i64 0)]) rfl ?_
    refine at_loop (fun k63 L I Ms => ∃ (x62 : Int), L = [(0, .slice A57 p56.length c58), (5, .int .i64 x62)] ∧ Ms = ([] ++ Fs) ∧ spec_l04Items_l0 k63 x62 p56 = some r ∧ ImmLe I0 I ∧ k63 ≤ k ∧ Rd (Kd.slice (Kd.int .i64)) I A57 c58 p56) ?_ ?_ k ⟨0, rfl, rfl, H, hle, Nat.le_refl _, hr59⟩
    · rintro L I Ms ⟨_, rfl, rfl, H, _⟩; exact no_none H
    · clear H hle hr59
      intro k63 ih64 L I Ms h_; obtain ⟨x62, hL_, hM_, H, hle, hk65, hr59⟩ := h_; rw [hL_, hM_]; clear hL_ hM_ L Ms
      rw [spec_l04Items_l0] at H
      refine at_seq ?_
      refine at_seq ?_
      refine at_reg [] [0, 5, 13] (L2 := [(0, .slice A57 p56.length c58), (5, .int .i64 x62), (13, .bool (decide (x62 < (p56.length : Int))))]) (obs := []) (by kernel_rfl) ?_ ?_
      · intro w hs; exact trivial
      refine at_thn ?_
      by_cases h66 : x62 < (p56.length : Int)
      · rw [if_pos h66] at H
        refine at_cond_t rfl (decide_eq_true h66) ?_
        refine at_skip ?_
        refine at_thn ?_
        refine at_seq ?_
        refine at_block ?_
        refine at_seq ?_
        refine at_ops [0, 1, 2, 3, 4, 5, 6, 7, 8, 9, 10, 11, 12, 13] rfl ?_
        obtain ⟨h67, H⟩ := ite_some H
        by_cases h74 : ((rdA [] p56 x62).length : Int) = 0
        · rw [if_pos h74] at H
          obtain ⟨cs79, hz80, hc75⟩ := hr59.elem [] x62 h67 h66
          obtain ⟨A76, c77, rfl, hr78⟩ := hz80
          refine at_seg [0, 1, 2, 3, 4, 5, 6, 7, 8, 9, 10] [11, 12, 13] rfl [(3, .slice A76 (rdA [] p56 x62).length c77), (6, .bool true)] [0, 5, 22, 26] (L2 := [(0, .slice A57 p56.length c58), (5, .int .i64 x62), (22, .bool true), (26, undef)]) (obs := [fun _ => A57.isSome = true ∧ 0 ≤ x62 ∧ x62 < ((p56.length : Nat) : Int), fun w => w.cell? ((A57.getD ad0).add (x62.toNat * 1)) = some (.slice A76 (rdA [] p56 x62).length c77), fun _ => (.bool (((rdA [] p56 x62).length : Int) == 0) : Value) = .bool true]) (by kernel_rfl) ?_ ?_
          · intro w hs; exact ⟨⟨hr59.ne x62 h67 h66, h67, h66⟩, cell0 (hc75 0 _ rfl hs), congrArg Value.bool (beq_iff_eq.2 h74)⟩
          refine at_seg [11, 12, 13] [] rfl [] [0, 5, 29] (L2 := [(0, .slice A57 p56.length c58), (5, .int .i64 x62), (29, .bool true)]) (obs := []) (by kernel_rfl) ?_ ?_
          · intro w hs; exact trivial
          refine at_end ?_
          refine at_thn ?_
          refine at_cond_t rfl (rfl) ?_
          refine at_seq ?_
          refine at_reg [] [4] (L2 := [(4, .bool false)]) (obs := []) (by kernel_rfl) ?_ ?_
          · intro w hs; exact trivial
          refine at_thn ?_
          refine at_ret ?_
          refine at_in_ret ?_
          refine at_then_ret ?_
          refine at_then_ret ?_
          refine at_in_ret ?_
          refine at_then_ret ?_
          obtain rfl := Option.some.inj H
          refine at_done (vs := [.bool false]) (obs := []) (.inl rfl) [.tmp 4] [] rfl (by kernel_rfl) (fun w hs => trivial) (fun w hs => ⟨_, _, [], rfl, ⟨rfl, rfl⟩, hle, hs⟩)
        · rw [if_neg h74] at H
          obtain ⟨cs85, hz86, hc81⟩ := hr59.elem [] x62 h67 h66
          obtain ⟨A82, c83, rfl, hr84⟩ := hz86
          refine at_seg [0, 1, 2, 3, 4, 5, 6, 7, 8, 9, 10] [11, 12, 13] rfl [(3, .slice A82 (rdA [] p56 x62).length c83), (6, .bool false), (10, .slice A82 (rdA [] p56 x62).length c83)] [0, 5, 22, 26] (L2 := [(0, .slice A57 p56.length c58), (5, .int .i64 x62), (22, .bool false), (26, .slice A82 (rdA [] p56 x62).length c83)]) (obs := [fun _ => A57.isSome = true ∧ 0 ≤ x62 ∧ x62 < ((p56.length : Nat) : Int), fun w => w.cell? ((A57.getD ad0).add (x62.toNat * 1)) = some (.slice A82 (rdA [] p56 x62).length c83), fun _ => (.bool (((rdA [] p56 x62).length : Int) == 0) : Value) = .bool false, fun _ => A57.isSome = true ∧ 0 ≤ x62 ∧ x62 < ((p56.length : Nat) : Int), fun w => w.cell? ((A57.getD ad0).add (x62.toNat * 1)) = some (.slice A82 (rdA [] p56 x62).length c83)]) (by kernel_rfl) ?_ ?_
          · intro w hs; exact ⟨⟨hr59.ne x62 h67 h66, h67, h66⟩, cell0 (hc81 0 _ rfl hs), congrArg Value.bool (beq_eq_false_iff_ne.2 h74), ⟨hr59.ne x62 h67 h66, h67, h66⟩, cell0 (hc81 0 _ rfl hs)⟩
          refine at_eff rfl rfl ?_
          obtain ⟨b4, H87, H⟩ := bind_some H
          have hm_ := spec_PointsRight.calls (I0 := I) H87 hr84
          refine eff_call rfl rfl ok20 rfl rfl (show Meets Try.prog 20 ([.slice A82 (rdA [] p56 x62).length c83] : List Value).toArray _ [] _ from hm_) (Mr := (Fs)) (List.Perm.refl _) (fun v88 J89 M90 hq91 hJ92 => ?_)
          replace hle := hle.trans hJ92
          replace hr59 := hr59.mono hJ92
          replace hr84 := hr84.mono hJ92
          obtain ⟨rfl, rfl⟩ := hq91
          refine at_seg [12, 13] [] rfl [] [0, 5, 29] (L2 := [(0, .slice A57 p56.length c58), (5, .int .i64 x62), (29, .bool (!b4))]) (obs := []) (by kernel_rfl) ?_ ?_
          · intro w hs; exact trivial
          refine at_end ?_
          refine at_thn ?_
          by_cases h93 : b4 = true
          · rw [if_pos h93] at H
            refine at_cond_f rfl (not_ff (h93)) ?_
            refine at_skip ?_
            refine at_in_norm ?_
            refine at_thn ?_
            refine at_reg [] [0, 5] (L2 := [(0, .slice A57 p56.length c58), (5, .int .i64 (IntKind.i64.wrap (x62 + 1)))]) (obs := []) (by kernel_rfl) ?_ ?_
            · intro w hs; exact trivial
            refine at_thn ?_
            refine at_keep [0, 5] (L2 := [(0, .slice A57 p56.length c58), (5, .int .i64 (IntKind.i64.wrap (x62 + 1)))]) rfl ?_
            exact ih64 _ (by omega) _ _ _ ⟨IntKind.i64.wrap (x62 + 1), rfl, rfl, H, hle, by omega, hr59⟩
          · rw [if_neg h93] at H
            refine at_cond_t rfl (not_tt (ff_of h93)) ?_
            refine at_seq ?_
            refine at_reg [] [4] (L2 := [(4, .bool false)]) (obs := []) (by kernel_rfl) ?_ ?_
            · intro w hs; exact trivial
            refine at_thn ?_
            refine at_ret ?_
            refine at_in_ret ?_
            refine at_then_ret ?_
            refine at_then_ret ?_
            refine at_in_ret ?_
            refine at_then_ret ?_
            obtain rfl := Option.some.inj H
            refine at_done (vs := [.bool false]) (obs := []) (.inl rfl) [.tmp 4] [] rfl (by kernel_rfl) (fun w hs => trivial) (fun w hs => ⟨_, _, [], rfl, ⟨rfl, rfl⟩, hle, hs⟩)
      · rw [if_neg h66] at H
        refine at_cond_f rfl (decide_eq_false h66) ?_
        refine at_exit ?_
        refine at_then_exit ?_
        refine at_then_exit ?_
        refine at_in_hit ?_
        refine at_thn ?_
        refine at_seq ?_
        refine at_reg [] [4] (L2 := [(4, .bool true)]) (obs := []) (by kernel_rfl) ?_ ?_
        · intro w hs; exact trivial
        refine at_thn ?_
        refine at_ret ?_
        obtain rfl := Option.some.inj H
        refine at_done (vs := [.bool true]) (obs := []) (.inl rfl) [.tmp 4] [] rfl (by kernel_rfl) (fun w hs => trivial) (fun w hs => ⟨_, _, [], rfl, ⟨rfl, rfl⟩, hle, hs⟩)
end Go.Proofs.Ytabdhegmepaeiaa
