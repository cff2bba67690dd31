import Derived.Test.YtabdhegmepaeiaaG6
namespace Go.Proofs.Ytabdhegmepaeiaa
open Go Eng
set_option linter.unusedVariables false
set_option linter.unusedSimpArgs false
/-! ### loop.example/g00146/laws.heldInt64S: function 54 -/
def laws_heldInt64S_l0 : Nat → Int → Int → (List Int) → Option Int
  | 0, _, _, _ => none
  | k + 1, x197, x198, p192 => if x198 < (p192.length : Int) then (if 0 ≤ x198 then (if (rdA 0 p192 x198) = x197 then (laws_heldInt64S_l0 k (IntKind.i64.wrap (x197 + 1)) (IntKind.i64.wrap (x198 + 1)) p192) else (some (-1))) else none) else (some x197)
def laws_heldInt64S (k : Nat) (p192 : List Int) (p196 : Int) : Option Int := laws_heldInt64S_l0 k p196 0 p192
set_option maxHeartbeats 4000000 in
set_option maxRecDepth 100000 in
theorem laws_heldInt64S.calls {k : Nat} {p192 : List Int} {p196 : Int} {r : Int} {I0 : Imm} {A193 : Option Addr} {c194 : Nat} (H : laws_heldInt64S k p192 p196 = some r) (hr195 : Rd (Kd.int .i64) I0 A193 c194 p192) :
    Meets Try.prog 54 ([.slice A193 p192.length c194, .int .i64 p196] : List Value).toArray I0 [] (fun v J M => v = .int .i64 r ∧ M = []) := by
  have hle := ImmLe.refl I0
  unfold laws_heldInt64S at H
  refine fn_intro (fn := Try.f54) 21 Try.func54 rfl rfl rfl (fun E Fs => ?_)
  refine at_seq ?_
  refine at_reg [] [0, 1] (L2 := [(0, .slice A193 p192.length c194), (1, .int .i64 p196)]) (obs := []) (by kernel_rfl) ?_ ?_
  · intro w hs; exact trivial
  refine at_thn ?_
  refine at_seq ?_
  refine at_seq ?_
  refine at_reg [] [0, 1, 5] (L2 := [(0, .slice A193 p192.length c194), (1, .int .i64 p196), (5, .int .i64 0)]) (obs := []) (by kernel_rfl) ?_ ?_
  · intro w hs; exact trivial
  refine at_thn ?_
  refine at_block ?_
  refine at_keep [0, 1, 5] (L2 := [(0, .slice A193 p192.length c194), (1, .int .i64 p196), (5, .int .i64 0)]) rfl ?_
  refine at_loop (fun k199 L I Ms => ∃ (x197 : Int) (x198 : Int), L = [(0, .slice A193 p192.length c194), (1, .int .i64 x197), (5, .int .i64 x198)] ∧ Ms = ([] ++ Fs) ∧ laws_heldInt64S_l0 k199 x197 x198 p192 = some r ∧ ImmLe I0 I ∧ k199 ≤ k ∧ Rd (Kd.int .i64) I A193 c194 p192) ?_ ?_ k ⟨p196, 0, rfl, rfl, H, hle, Nat.le_refl _, hr195⟩
  · rintro L I Ms ⟨_, _, rfl, rfl, H, _⟩; exact no_none H
  · clear H hle hr195
    intro k199 ih200 L I Ms h_; obtain ⟨x197, x198, hL_, hM_, H, hle, hk201, hr195⟩ := h_; rw [hL_, hM_]; clear hL_ hM_ L Ms
    rw [laws_heldInt64S_l0] at H
    refine at_seq ?_
    refine at_seq ?_
    refine at_reg [] [0, 1, 5, 9] (L2 := [(0, .slice A193 p192.length c194), (1, .int .i64 x197), (5, .int .i64 x198), (9, .bool (decide (x198 < (p192.length : Int))))]) (obs := []) (by kernel_rfl) ?_ ?_
    · intro w hs; exact trivial
    refine at_thn ?_
    by_cases h202 : x198 < (p192.length : Int)
    · rw [if_pos h202] at H
      refine at_cond_t rfl (decide_eq_true h202) ?_
      refine at_skip ?_
      refine at_thn ?_
      refine at_seq ?_
      refine at_block ?_
      refine at_seq ?_
      refine at_seq ?_
      obtain ⟨h203, H⟩ := ite_some H
      refine at_reg [(3, .int .i64 (rdA 0 p192 x198))] [0, 1, 5, 17] (L2 := [(0, .slice A193 p192.length c194), (1, .int .i64 x197), (5, .int .i64 x198), (17, .bool ((rdA 0 p192 x198) != x197))]) (obs := [fun _ => A193.isSome = true ∧ 0 ≤ x198 ∧ x198 < ((p192.length : Nat) : Int), fun w => w.cell? ((A193.getD ad0).add (x198.toNat * 1)) = some (.int .i64 (rdA 0 p192 x198))]) (by kernel_rfl) ?_ ?_
      · intro w hs; exact ⟨⟨hr195.ne x198 h203 h202, h203, h202⟩, hr195.one 0 x198 h203 h202 hs⟩
      refine at_thn ?_
      by_cases h204 : (rdA 0 p192 x198) = x197
      · rw [if_pos h204] at H
        refine at_cond_f rfl (bne_eq_false_iff_eq.2 h204) ?_
        refine at_skip ?_
        refine at_thn ?_
        refine at_reg [] [0, 1, 5] (L2 := [(0, .slice A193 p192.length c194), (1, .int .i64 (IntKind.i64.wrap (x197 + 1))), (5, .int .i64 x198)]) (obs := []) (by kernel_rfl) ?_ ?_
        · intro w hs; exact trivial
        refine at_in_norm ?_
        refine at_thn ?_
        refine at_reg [] [0, 1, 5] (L2 := [(0, .slice A193 p192.length c194), (1, .int .i64 (IntKind.i64.wrap (x197 + 1))), (5, .int .i64 (IntKind.i64.wrap (x198 + 1)))]) (obs := []) (by kernel_rfl) ?_ ?_
        · intro w hs; exact trivial
        refine at_thn ?_
        refine at_keep [0, 1, 5] (L2 := [(0, .slice A193 p192.length c194), (1, .int .i64 (IntKind.i64.wrap (x197 + 1))), (5, .int .i64 (IntKind.i64.wrap (x198 + 1)))]) rfl ?_
        exact ih200 _ (by omega) _ _ _ ⟨IntKind.i64.wrap (x197 + 1), IntKind.i64.wrap (x198 + 1), rfl, rfl, H, hle, by omega, hr195⟩
      · rw [if_neg h204] at H
        refine at_cond_t rfl (bne_iff_ne.2 h204) ?_
        refine at_seq ?_
        refine at_reg [] [4] (L2 := [(4, .int .i64 (-1))]) (obs := []) (by kernel_rfl) ?_ ?_
        · intro w hs; exact trivial
        refine at_thn ?_
        refine at_ret ?_
        refine at_then_ret ?_
        refine at_in_ret ?_
        refine at_then_ret ?_
        refine at_then_ret ?_
        refine at_in_ret ?_
        refine at_then_ret ?_
        obtain rfl := Option.some.inj H
        refine at_done (vs := [.int .i64 (-1)]) (obs := []) (.inl rfl) [.tmp 4] [] rfl (by kernel_rfl) (fun w hs => trivial) (fun w hs => ⟨_, _, [], rfl, ⟨rfl, rfl⟩, hle, hs⟩)
    · rw [if_neg h202] at H
      refine at_cond_f rfl (decide_eq_false h202) ?_
      refine at_exit ?_
      refine at_then_exit ?_
      refine at_then_exit ?_
      refine at_in_hit ?_
      refine at_thn ?_
      refine at_seq ?_
      refine at_reg [] [4] (L2 := [(4, .int .i64 x197)]) (obs := []) (by kernel_rfl) ?_ ?_
      · intro w hs; exact trivial
      refine at_thn ?_
      refine at_ret ?_
      obtain rfl := Option.some.inj H
      refine at_done (vs := [.int .i64 x197]) (obs := []) (.inl rfl) [.tmp 4] [] rfl (by kernel_rfl) (fun w hs => trivial) (fun w hs => ⟨_, _, [], rfl, ⟨rfl, rfl⟩, hle, hs⟩)

/-! ### loop.example/g00146/laws.heldInt64SS: function 38 -/
def laws_heldInt64SS_l0 : Nat → Int → Int → (List (List Int)) → Option Int
  | 0, _, _, _ => none
  | k + 1, x184, x185, p179 => if x185 < (p179.length : Int) then (if 0 ≤ x185 then ((laws_heldInt64S k (rdA [] p179 x185) x184).bind fun b17 => (if b17 < 0 then (some (-1)) else (laws_heldInt64SS_l0 k b17 (IntKind.i64.wrap (x185 + 1)) p179))) else none) else (some x184)
def laws_heldInt64SS (k : Nat) (p179 : List (List Int)) (p183 : Int) : Option Int := laws_heldInt64SS_l0 k p183 0 p179
set_option maxHeartbeats 4000000 in
set_option maxRecDepth 100000 in
theorem laws_heldInt64SS.calls {k : Nat} {p179 : List (List Int)} {p183 : Int} {r : Int} {I0 : Imm} {A180 : Option Addr} {c181 : Nat} (H : laws_heldInt64SS k p179 p183 = some r) (hr182 : Rd (Kd.slice (Kd.int .i64)) I0 A180 c181 p179) :
    Meets Try.prog 38 ([.slice A180 p179.length c181, .int .i64 p183] : List Value).toArray I0 [] (fun v J M => v = .int .i64 r ∧ M = []) := by
  have hle := ImmLe.refl I0
  unfold laws_heldInt64SS at H
  refine fn_intro (fn := Try.f38) 21 Try.func38 rfl rfl rfl (fun E Fs => ?_)
  refine at_seq ?_
  refine at_reg [] [0, 1] (L2 := [(0, .slice A180 p179.length c181), (1, .int .i64 p183)]) (obs := []) (by kernel_rfl) ?_ ?_
  · intro w hs; exact trivial
  refine at_thn ?_
  refine at_seq ?_
  refine at_seq ?_
  refine at_reg [] [0, 1, 5] (L2 := [(0, .slice A180 p179.length c181), (1, .int .i64 p183), (5, .int .i64 0)]) (obs := []) (by kernel_rfl) ?_ ?_
  · intro w hs; exact trivial
  refine at_thn ?_
  refine at_block ?_
  refine at_keep [0, 1, 5] (L2 := [(0, .slice A180 p179.length c181), (1, .int .i64 p183), (5, .int .i64 0)]) rfl ?_
  refine at_loop (fun k186 L I Ms => ∃ (x184 : Int) (x185 : Int), L = [(0, .slice A180 p179.length c181), (1, .int .i64 x184), (5, .int .i64 x185)] ∧ Ms = ([] ++ Fs) ∧ laws_heldInt64SS_l0 k186 x184 x185 p179 = some r ∧ ImmLe I0 I ∧ k186 ≤ k ∧ Rd (Kd.slice (Kd.int .i64)) I A180 c181 p179) ?_ ?_ k ⟨p183, 0, rfl, rfl, H, hle, Nat.le_refl _, hr182⟩
  · rintro L I Ms ⟨_, _, rfl, rfl, H, _⟩; exact no_none H
  · clear H hle hr182
    intro k186 ih187 L I Ms h_; obtain ⟨x184, x185, hL_, hM_, H, hle, hk188, hr182⟩ := h_; rw [hL_, hM_]; clear hL_ hM_ L Ms
    rw [laws_heldInt64SS_l0] at H
    refine at_seq ?_
    refine at_seq ?_
    refine at_reg [] [0, 1, 5, 9] (L2 := [(0, .slice A180 p179.length c181), (1, .int .i64 x184), (5, .int .i64 x185), (9, .bool (decide (x185 < (p179.length : Int))))]) (obs := []) (by kernel_rfl) ?_ ?_
    · intro w hs; exact trivial
    refine at_thn ?_
    by_cases h189 : x185 < (p179.length : Int)
    · rw [if_pos h189] at H
      refine at_cond_t rfl (decide_eq_true h189) ?_
      refine at_skip ?_
      refine at_thn ?_
      refine at_seq ?_
      refine at_block ?_
      refine at_seq ?_
      refine at_ops [0, 1, 2, 3, 4, 5, 6] rfl ?_
      obtain ⟨h190, H⟩ := ite_some H
      obtain ⟨cs195, hz196, hc191⟩ := hr182.elem [] x185 h190 h189
      obtain ⟨A192, c193, rfl, hr194⟩ := hz196
      refine at_seg [0, 1, 2, 3, 4] [5, 6] rfl [(3, .slice A192 (rdA [] p179 x185).length c193)] [0, 1, 5, 15, 16] (L2 := [(0, .slice A180 p179.length c181), (1, .int .i64 x184), (5, .int .i64 x185), (15, .slice A192 (rdA [] p179 x185).length c193), (16, .int .i64 x184)]) (obs := [fun _ => A180.isSome = true ∧ 0 ≤ x185 ∧ x185 < ((p179.length : Nat) : Int), fun w => w.cell? ((A180.getD ad0).add (x185.toNat * 1)) = some (.slice A192 (rdA [] p179 x185).length c193)]) (by kernel_rfl) ?_ ?_
      · intro w hs; exact ⟨⟨hr182.ne x185 h190 h189, h190, h189⟩, cell0 (hc191 0 _ rfl hs)⟩
      refine at_eff rfl rfl ?_
      obtain ⟨b17, H197, H⟩ := bind_some H
      have hm_ := laws_heldInt64S.calls (I0 := I) H197 hr194
      refine eff_call rfl rfl ok54 rfl rfl (show Meets Try.prog 54 ([.slice A192 (rdA [] p179 x185).length c193, .int .i64 x184] : List Value).toArray _ [] _ from hm_) (Mr := (Fs)) (List.Perm.refl _) (fun v198 J199 M200 hq201 hJ202 => ?_)
      replace hle := hle.trans hJ202
      replace hr182 := hr182.mono hJ202
      replace hr194 := hr194.mono hJ202
      obtain ⟨rfl, rfl⟩ := hq201
      refine at_seg [6] [] rfl [] [0, 1, 5] (L2 := [(0, .slice A180 p179.length c181), (1, .int .i64 b17), (5, .int .i64 x185)]) (obs := []) (by kernel_rfl) ?_ ?_
      · intro w hs; exact trivial
      refine at_end ?_
      refine at_thn ?_
      refine at_seq ?_
      refine at_reg [] [0, 1, 5, 19] (L2 := [(0, .slice A180 p179.length c181), (1, .int .i64 b17), (5, .int .i64 x185), (19, .bool (decide (b17 < 0)))]) (obs := []) (by kernel_rfl) ?_ ?_
      · intro w hs; exact trivial
      refine at_thn ?_
      by_cases h203 : b17 < 0
      · rw [if_pos h203] at H
        refine at_cond_t rfl (decide_eq_true h203) ?_
        refine at_seq ?_
        refine at_reg [] [4] (L2 := [(4, .int .i64 (-1))]) (obs := []) (by kernel_rfl) ?_ ?_
        · intro w hs; exact trivial
        refine at_thn ?_
        refine at_ret ?_
        refine at_in_ret ?_
        refine at_then_ret ?_
        refine at_then_ret ?_
        refine at_in_ret ?_
        refine at_then_ret ?_
        obtain rfl := Option.some.inj H
        refine at_done (vs := [.int .i64 (-1)]) (obs := []) (.inl rfl) [.tmp 4] [] rfl (by kernel_rfl) (fun w hs => trivial) (fun w hs => ⟨_, _, [], rfl, ⟨rfl, rfl⟩, hle, hs⟩)
      · rw [if_neg h203] at H
        refine at_cond_f rfl (decide_eq_false h203) ?_
        refine at_skip ?_
        refine at_in_norm ?_
        refine at_thn ?_
        refine at_reg [] [0, 1, 5] (L2 := [(0, .slice A180 p179.length c181), (1, .int .i64 b17), (5, .int .i64 (IntKind.i64.wrap (x185 + 1)))]) (obs := []) (by kernel_rfl) ?_ ?_
        · intro w hs; exact trivial
        refine at_thn ?_
        refine at_keep [0, 1, 5] (L2 := [(0, .slice A180 p179.length c181), (1, .int .i64 b17), (5, .int .i64 (IntKind.i64.wrap (x185 + 1)))]) rfl ?_
        exact ih187 _ (by omega) _ _ _ ⟨b17, IntKind.i64.wrap (x185 + 1), rfl, rfl, H, hle, by omega, hr182⟩
    · rw [if_neg h189] at H
      refine at_cond_f rfl (decide_eq_false h189) ?_
      refine at_exit ?_
      refine at_then_exit ?_
      refine at_then_exit ?_
      refine at_in_hit ?_
      refine at_thn ?_
      refine at_seq ?_
      refine at_reg [] [4] (L2 := [(4, .int .i64 x184)]) (obs := []) (by kernel_rfl) ?_ ?_
      · intro w hs; exact trivial
      refine at_thn ?_
      refine at_ret ?_
      obtain rfl := Option.some.inj H
      refine at_done (vs := [.int .i64 x184]) (obs := []) (.inl rfl) [.tmp 4] [] rfl (by kernel_rfl) (fun w hs => trivial) (fun w hs => ⟨_, _, [], rfl, ⟨rfl, rfl⟩, hle, hs⟩)

/-! ### loop.example/g00146/laws.heldRing: function 15 -/
def laws_heldRing (k : Nat) (p173 : T_impl_Ring) (p177 : Int) : Option Int := (laws_heldInt64SS k p173.Items p177).bind fun b17 => (if b17 < 0 then (some (-1)) else (some b17))
set_option maxHeartbeats 4000000 in
set_option maxRecDepth 100000 in
theorem laws_heldRing.calls {k : Nat} {p173 : T_impl_Ring} {p177 : Int} {r : Int} {I0 : Imm} {A174 : Option Addr} {c175 : Nat} (H : laws_heldRing k p173 p177 = some r) (hr176 : Rd (Kd.slice (Kd.int .i64)) I0 A174 c175 p173.Items) :
    Meets Try.prog 15 ([.agg #[.slice A174 p173.Items.length c175, .int .i64 p173.At], .int .i64 p177] : List Value).toArray I0 [] (fun v J M => v = .int .i64 r ∧ M = []) := by
  have hle := ImmLe.refl I0
  unfold laws_heldRing at H
  refine fn_intro (fn := Try.f15) 12 Try.func15 rfl rfl rfl (fun E Fs => ?_)
  refine at_seq ?_
  refine at_ops [0, 1] rfl ?_
  refine at_eff rfl rfl ?_
  refine eff_box rfl rfl rfl #[.slice A174 p173.Items.length c175, .int .i64 p173.At] rfl (fun g178 => ?_)
  refine at_seg [1] [] rfl [] [1, 2] (L2 := [(1, .int .i64 p177), (2, .pointer (some ⟨g178, 0, none⟩))]) (obs := []) (by kernel_rfl) ?_ ?_
  · intro w hs; exact trivial
  refine at_end ?_
  refine at_thn ?_
  refine at_seq ?_
  refine at_ops [0, 1, 2, 3, 4] rfl ?_
  refine at_seg [0, 1, 2] [3, 4] rfl [(1, .slice A174 p173.Items.length c175)] [1, 6, 7] (L2 := [(1, .int .i64 p177), (6, .slice A174 p173.Items.length c175), (7, .int .i64 p177)]) (obs := [fun w => w.cell? ⟨g178, 0, none⟩ = some (.slice A174 p173.Items.length c175)]) (by kernel_rfl) ?_ ?_
  · intro w hs; exact hs.var (k := 0) rfl 0 rfl
  refine at_eff rfl rfl ?_
  obtain ⟨b17, H179, H⟩ := bind_some H
  have hm_ := laws_heldInt64SS.calls (I0 := I0) H179 hr176
  refine eff_call rfl rfl ok38 rfl rfl (show Meets Try.prog 38 ([.slice A174 p173.Items.length c175, .int .i64 p177] : List Value).toArray _ [] _ from hm_) (Mr := ([(g178, .cells #[.slice A174 p173.Items.length c175, .int .i64 p173.At] 27 (0, 0))] :: Fs)) (List.Perm.refl _) (fun v180 J181 M182 hq183 hJ184 => ?_)
  replace hle := hle.trans hJ184
  replace hr176 := hr176.mono hJ184
  obtain ⟨rfl, rfl⟩ := hq183
  refine at_seg [4] [] rfl [] [1] (L2 := [(1, .int .i64 b17)]) (obs := []) (by kernel_rfl) ?_ ?_
  · intro w hs; exact trivial
  refine at_end ?_
  refine at_thn ?_
  refine at_seq ?_
  refine at_seq ?_
  refine at_reg [] [1, 10] (L2 := [(1, .int .i64 b17), (10, .bool (decide (b17 < 0)))]) (obs := []) (by kernel_rfl) ?_ ?_
  · intro w hs; exact trivial
  refine at_thn ?_
  by_cases h185 : b17 < 0
  · rw [if_pos h185] at H
    refine at_cond_t rfl (decide_eq_true h185) ?_
    refine at_seq ?_
    refine at_reg [] [4] (L2 := [(4, .int .i64 (-1))]) (obs := []) (by kernel_rfl) ?_ ?_
    · intro w hs; exact trivial
    refine at_thn ?_
    refine at_ret ?_
    refine at_then_ret ?_
    obtain rfl := Option.some.inj H
    refine at_drop (k := 0) rfl rfl ?_
    refine at_done (vs := [.int .i64 (-1)]) (obs := []) (.inl rfl) [.tmp 4] [] rfl (by kernel_rfl) (fun w hs => trivial) (fun w hs => ⟨_, _, [], rfl, ⟨rfl, rfl⟩, hle, hs⟩)
  · rw [if_neg h185] at H
    refine at_cond_f rfl (decide_eq_false h185) ?_
    refine at_skip ?_
    refine at_thn ?_
    refine at_seq ?_
    refine at_reg [] [4] (L2 := [(4, .int .i64 b17)]) (obs := []) (by kernel_rfl) ?_ ?_
    · intro w hs; exact trivial
    refine at_thn ?_
    refine at_ret ?_
    obtain rfl := Option.some.inj H
    refine at_drop (k := 0) rfl rfl ?_
    refine at_done (vs := [.int .i64 b17]) (obs := []) (.inl rfl) [.tmp 4] [] rfl (by kernel_rfl) (fun w hs => trivial) (fun w hs => ⟨_, _, [], rfl, ⟨rfl, rfl⟩, hle, hs⟩)
end Go.Proofs.Ytabdhegmepaeiaa
