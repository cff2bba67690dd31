import Derived.Test.YtocfakbgefdgkaaG8
namespace Go.Proofs.Ytocfakbgefdgkaa
open Go Eng
set_option linter.unusedVariables false
set_option linter.unusedSimpArgs false
/-! ### loop.example/g00146/laws.eqInt64SS: function 50 -/
def laws_eqInt64SS_l0 : Nat → Int → (List (List Int)) → (List (List Int)) → Option Bool
  | 0, _, _, _ => none
  | k + 1, x116, p107, p111 => if x116 < (p107.length : Int) then (if 0 ≤ x116 then (if x116 < (p111.length : Int) then ((laws_eqInt64S k (rdA [] p107 x116) (rdA [] p111 x116)).bind fun b8 => (if b8 = true then (laws_eqInt64SS_l0 k (IntKind.i64.wrap (x116 + 1)) p107 p111) else (some false))) else none) else none) else (some true)
def laws_eqInt64SS (k : Nat) (p107 : List (List Int)) (p111 : List (List Int)) : Option Bool := if (p107.length : Int) = (p111.length : Int) then (laws_eqInt64SS_l0 k 0 p107 p111) else (some false)
set_option maxHeartbeats 4000000 in
set_option maxRecDepth 100000 in
theorem laws_eqInt64SS.calls {k : Nat} {p107 : List (List Int)} {p111 : List (List Int)} {r : Bool} {I0 : Imm} {A108 : Option Addr} {c109 : Nat} {A112 : Option Addr} {c113 : Nat} (H : laws_eqInt64SS k p107 p111 = some r) (hr110 : Rd (Kd.slice (Kd.int .i64)) I0 A108 c109 p107) (hr114 : Rd (Kd.slice (Kd.int .i64)) I0 A112 c113 p111) :
    Meets Try.prog 50 ([.slice A108 p107.length c109, .slice A112 p111.length c113] : List Value).toArray I0 [] (fun v J M => v = .bool r ∧ M = []) := by
  have hle := ImmLe.refl I0
  unfold laws_eqInt64SS at H
  refine fn_intro (fn := Try.f50) 27 Try.func50 rfl rfl rfl (fun E Fs => ?_)
  refine at_seq ?_
  refine at_reg [] [0, 1] (L2 := [(0, .slice A108 p107.length c109), (1, .slice A112 p111.length c113)]) (obs := []) (by kernel_rfl) ?_ ?_
  · intro w hs; exact trivial
  refine at_thn ?_
  refine at_seq ?_
  refine at_seq ?_
  refine at_reg [] [0, 1, 10] (L2 := [(0, .slice A108 p107.length c109), (1, .slice A112 p111.length c113), (10, .bool ((p107.length : Int) != (p111.length : Int)))]) (obs := []) (by kernel_rfl) ?_ ?_
  · intro w hs; exact trivial
  refine at_thn ?_
  by_cases h115 : (p107.length : Int) = (p111.length : Int)
  · rw [if_pos h115] at H
    refine at_cond_f rfl (bne_eq_false_iff_eq.2 h115) ?_
    refine at_skip ?_
    refine at_thn ?_
    refine at_seq ?_
    refine at_seq ?_
    refine at_reg [] [0, 1, 5] (L2 := [(0, .slice A108 p107.length c109), (1, .slice A112 p111.length c113), (5, .int .i64 0)]) (obs := []) (by kernel_rfl) ?_ ?_
    · intro w hs; exact trivial
    refine at_thn ?_
    refine at_block ?_
    refine at_keep [0, 1, 5] (L2 := [(0, .slice A108 p107.length c109), (1, .slice A112 p111.length c113), (5, .int .i64 0)]) rfl ?_
    refine at_loop (fun k117 L I Ms => ∃ (x116 : Int), L = [(0, .slice A108 p107.length c109), (1, .slice A112 p111.length c113), (5, .int .i64 x116)] ∧ Ms = ([] ++ Fs) ∧ laws_eqInt64SS_l0 k117 x116 p107 p111 = some r ∧ ImmLe I0 I ∧ k117 ≤ k ∧ Rd (Kd.slice (Kd.int .i64)) I A108 c109 p107 ∧ Rd (Kd.slice (Kd.int .i64)) I A112 c113 p111) ?_ ?_ k ⟨0, rfl, rfl, H, hle, Nat.le_refl _, hr110, hr114⟩
    · rintro L I Ms ⟨_, rfl, rfl, H, _⟩; exact no_none H
    · clear H hle hr110 hr114
      intro k117 ih118 L I Ms h_; obtain ⟨x116, hL_, hM_, H, hle, hk119, hr110, hr114⟩ := h_; rw [hL_, hM_]; clear hL_ hM_ L Ms
      rw [laws_eqInt64SS_l0] at H
      refine at_seq ?_
      refine at_seq ?_
      refine at_reg [] [0, 1, 5, 14] (L2 := [(0, .slice A108 p107.length c109), (1, .slice A112 p111.length c113), (5, .int .i64 x116), (14, .bool (decide (x116 < (p107.length : Int))))]) (obs := []) (by kernel_rfl) ?_ ?_
      · intro w hs; exact trivial
      refine at_thn ?_
      by_cases h120 : x116 < (p107.length : Int)
      · rw [if_pos h120] at H
        refine at_cond_t rfl (decide_eq_true h120) ?_
        refine at_skip ?_
        refine at_thn ?_
        refine at_seq ?_
        refine at_block ?_
        refine at_seq ?_
        obtain ⟨h121, H⟩ := ite_some H
        obtain ⟨h128, H⟩ := ite_some H
        obtain ⟨cs126, hz127, hc122⟩ := hr110.elem [] x116 h121 h120
        obtain ⟨A123, c124, rfl, hr125⟩ := hz127
        obtain ⟨cs133, hz134, hc129⟩ := hr114.elem [] x116 h121 h128
        obtain ⟨A130, c131, rfl, hr132⟩ := hz134
        refine at_x hmo (fun w => w.cell? ((A108.getD ad0).add (x116.toNat * 1)) = some (.slice A123 (rdA [] p107 x116).length c124) ∧ w.cell? ((A112.getD ad0).add (x116.toNat * 1)) = some (.slice A130 (rdA [] p111 x116).length c131)) [] ?_
        refine at_xseg [0, 1, 2, 3, 4, 5, 6, 7] 2 (#[true, true, true, true, true, true, true, true, false, false]) rfl (by kernel_rfl) [(3, .slice A123 (rdA [] p107 x116).length c124), (7, .slice A130 (rdA [] p111 x116).length c131)] [0, 1, 5, 20, 24] (L2 := [(0, .slice A108 p107.length c109), (1, .slice A112 p111.length c113), (5, .int .i64 x116), (20, .slice A123 (rdA [] p107 x116).length c124), (24, .slice A130 (rdA [] p111 x116).length c131)]) (obs := [fun _ => A108.isSome = true ∧ 0 ≤ x116 ∧ x116 < ((p107.length : Nat) : Int), fun w => w.cell? ((A108.getD ad0).add (x116.toNat * 1)) = some (.slice A123 (rdA [] p107 x116).length c124), fun _ => A112.isSome = true ∧ 0 ≤ x116 ∧ x116 < ((p111.length : Nat) : Int), fun w => w.cell? ((A112.getD ad0).add (x116.toNat * 1)) = some (.slice A130 (rdA [] p111 x116).length c131)]) (by kernel_rfl) (by kernel_rfl) (by kernel_rfl) (.inr fun w hs => ⟨cell0 (hc122 0 _ rfl hs), cell0 (hc129 0 _ rfl hs)⟩) (fun w hS => ⟨⟨hr110.ne x116 h121 h120, h121, h120⟩, hS.1, ⟨hr114.ne x116 h121 h128, h121, h128⟩, hS.2⟩) (fun w hs => ⟨⟨hr110.ne x116 h121 h120, h121, h120⟩, cell0 (hc122 0 _ rfl hs), ⟨hr114.ne x116 h121 h128, h121, h128⟩, cell0 (hc129 0 _ rfl hs)⟩) ?_
        refine at_x1 1 8 (#[true, true, true, true, true, true, true, true, true, false]) rfl (by kernel_rfl) (by kernel_rfl) rfl rfl ?_
        obtain ⟨b8, H135, H⟩ := bind_some H
        have hm_ := laws_eqInt64S.calls (I0 := I) H135 hr125 hr132
        refine eff_call rfl rfl ok18 rfl rfl (show Meets Try.prog 18 ([.slice A123 (rdA [] p107 x116).length c124, .slice A130 (rdA [] p111 x116).length c131] : List Value).toArray _ [] _ from hm_) (Mr := (Fs)) (List.Perm.refl _) (fun v136 J137 M138 hq139 hJ140 => ?_)
        replace hle := hle.trans hJ140
        replace hr110 := hr110.mono hJ140
        replace hr114 := hr114.mono hJ140
        replace hr125 := hr125.mono hJ140
        replace hr132 := hr132.mono hJ140
        replace hc122 := hc_mono hc122 hJ140
        replace hc129 := hc_mono hc129 hJ140
        obtain ⟨rfl, rfl⟩ := hq139
        refine at_xS (fun w hs => ⟨cell0 (hc122 0 _ rfl hs), cell0 (hc129 0 _ rfl hs)⟩) ?_
        refine at_xseg [9] 0 (#[true, true, true, true, true, true, true, true, true, true]) rfl (by kernel_rfl) [] [0, 1, 5, 26] (L2 := [(0, .slice A108 p107.length c109), (1, .slice A112 p111.length c113), (5, .int .i64 x116), (26, .bool (!b8))]) (obs := []) (by kernel_rfl) (by kernel_rfl) (by kernel_rfl) (.inr fun w hs => ⟨cell0 (hc122 0 _ rfl hs), cell0 (hc129 0 _ rfl hs)⟩) (fun w hS => trivial) (fun w hs => trivial) ?_
        refine at_xend (by kernel_rfl) ?_
        refine at_thn ?_
        by_cases h141 : b8 = true
        · rw [if_pos h141] at H
          refine at_cond_f rfl (not_ff (h141)) ?_
          refine at_skip ?_
          refine at_in_norm ?_
          refine at_thn ?_
          refine at_reg [] [0, 1, 5] (L2 := [(0, .slice A108 p107.length c109), (1, .slice A112 p111.length c113), (5, .int .i64 (IntKind.i64.wrap (x116 + 1)))]) (obs := []) (by kernel_rfl) ?_ ?_
          · intro w hs; exact trivial
          refine at_thn ?_
          refine at_keep [0, 1, 5] (L2 := [(0, .slice A108 p107.length c109), (1, .slice A112 p111.length c113), (5, .int .i64 (IntKind.i64.wrap (x116 + 1)))]) rfl ?_
          exact ih118 _ (by omega) _ _ _ ⟨IntKind.i64.wrap (x116 + 1), rfl, rfl, H, hle, by omega, hr110, hr114⟩
        · rw [if_neg h141] at H
          refine at_cond_t rfl (not_tt (ff_of h141)) ?_
          refine at_seq ?_
          refine at_reg [] [4] (L2 := [(4, .bool false)]) (obs := []) (by kernel_rfl) ?_ ?_
          · intro w hs; exact trivial
          refine at_thn ?_
          refine at_ret ?_
          refine at_in_ret ?_
          refine at_then_ret ?_
          refine at_then_ret ?_
          refine at_in_ret ?_
          refine at_then_ret ?_
          obtain rfl := Option.some.inj H
          refine at_done (vs := [.bool false]) (obs := []) (.inl rfl) [.tmp 4] [] rfl (by kernel_rfl) (fun w hs => trivial) (fun w hs => ⟨_, _, [], rfl, ⟨rfl, rfl⟩, hle, hs⟩)
      · rw [if_neg h120] at H
        refine at_cond_f rfl (decide_eq_false h120) ?_
        refine at_exit ?_
        refine at_then_exit ?_
        refine at_then_exit ?_
        refine at_in_hit ?_
        refine at_thn ?_
        refine at_seq ?_
        refine at_reg [] [4] (L2 := [(4, .bool true)]) (obs := []) (by kernel_rfl) ?_ ?_
        · intro w hs; exact trivial
        refine at_thn ?_
        refine at_ret ?_
        obtain rfl := Option.some.inj H
        refine at_done (vs := [.bool true]) (obs := []) (.inl rfl) [.tmp 4] [] rfl (by kernel_rfl) (fun w hs => trivial) (fun w hs => ⟨_, _, [], rfl, ⟨rfl, rfl⟩, hle, hs⟩)
  · rw [if_neg h115] at H
    refine at_cond_t rfl (bne_iff_ne.2 h115) ?_
    refine at_seq ?_
    refine at_reg [] [4] (L2 := [(4, .bool false)]) (obs := []) (by kernel_rfl) ?_ ?_
    · intro w hs; exact trivial
    refine at_thn ?_
    refine at_ret ?_
    refine at_then_ret ?_
    obtain rfl := Option.some.inj H
    refine at_done (vs := [.bool false]) (obs := []) (.inl rfl) [.tmp 4] [] rfl (by kernel_rfl) (fun w hs => trivial) (fun w hs => ⟨_, _, [], rfl, ⟨rfl, rfl⟩, hle, hs⟩)

/-! ### loop.example/g00146/laws.eqRing: function 17 -/
def laws_eqRing (k : Nat) (p97 : T_impl_Ring) (p101 : T_impl_Ring) : Option Bool := (laws_eqInt64SS k p97.Items p101.Items).bind fun b8 => (if b8 = true then (if p97.At = p101.At then (some true) else (some false)) else (some false))
set_option maxHeartbeats 4000000 in
set_option maxRecDepth 100000 in
theorem laws_eqRing.calls {k : Nat} {p97 : T_impl_Ring} {p101 : T_impl_Ring} {r : Bool} {I0 : Imm} {A98 : Option Addr} {c99 : Nat} {A102 : Option Addr} {c103 : Nat} (H : laws_eqRing k p97 p101 = some r) (hr100 : Rd (Kd.slice (Kd.int .i64)) I0 A98 c99 p97.Items) (hr104 : Rd (Kd.slice (Kd.int .i64)) I0 A102 c103 p101.Items) :
    Meets Try.prog 17 ([.agg #[.slice A98 p97.Items.length c99, .int .i64 p97.At], .agg #[.slice A102 p101.Items.length c103, .int .i64 p101.At]] : List Value).toArray I0 [] (fun v J M => v = .bool r ∧ M = []) := by
  have hle := ImmLe.refl I0
  unfold laws_eqRing at H
  refine fn_intro (fn := Try.f17) 16 Try.func17 rfl rfl rfl (fun E Fs => ?_)
  refine at_seq ?_
  refine at_ops [0, 1, 2] rfl ?_
  refine at_eff rfl rfl ?_
  refine eff_box rfl rfl rfl #[.slice A98 p97.Items.length c99, .int .i64 p97.At] rfl (fun g105 => ?_)
  refine at_eff rfl rfl ?_
  refine eff_box rfl rfl rfl #[.slice A102 p101.Items.length c103, .int .i64 p101.At] rfl (fun g106 => ?_)
  refine at_seg [2] [] rfl [] [2, 3] (L2 := [(2, .pointer (some ⟨g105, 0, none⟩)), (3, .pointer (some ⟨g106, 0, none⟩))]) (obs := []) (by kernel_rfl) ?_ ?_
  · intro w hs; exact trivial
  refine at_end ?_
  refine at_thn ?_
  refine at_seq ?_
  refine at_seq ?_
  refine at_ops [0, 1, 2, 3, 4, 5] rfl ?_
  refine at_seg [0, 1, 2, 3] [4, 5] rfl [(1, .slice A98 p97.Items.length c99), (3, .slice A102 p101.Items.length c103)] [2, 3, 6, 8] (L2 := [(2, .pointer (some ⟨g105, 0, none⟩)), (3, .pointer (some ⟨g106, 0, none⟩)), (6, .slice A98 p97.Items.length c99), (8, .slice A102 p101.Items.length c103)]) (obs := [fun w => w.cell? ⟨g105, 0, none⟩ = some (.slice A98 p97.Items.length c99), fun w => w.cell? ⟨g106, 0, none⟩ = some (.slice A102 p101.Items.length c103)]) (by kernel_rfl) ?_ ?_
  · intro w hs; exact ⟨hs.var (k := 1) rfl 0 rfl, hs.var (k := 0) rfl 0 rfl⟩
  refine at_eff rfl rfl ?_
  obtain ⟨b8, H107, H⟩ := bind_some H
  have hm_ := laws_eqInt64SS.calls (I0 := I0) H107 hr100 hr104
  refine eff_call rfl rfl ok50 rfl rfl (show Meets Try.prog 50 ([.slice A98 p97.Items.length c99, .slice A102 p101.Items.length c103] : List Value).toArray _ [] _ from hm_) (Mr := ([(g106, .cells #[.slice A102 p101.Items.length c103, .int .i64 p101.At] 38 (0, 0))] :: [(g105, .cells #[.slice A98 p97.Items.length c99, .int .i64 p97.At] 38 (0, 0))] :: Fs)) (List.Perm.refl _) (fun v108 J109 M110 hq111 hJ112 => ?_)
  replace hle := hle.trans hJ112
  replace hr100 := hr100.mono hJ112
  replace hr104 := hr104.mono hJ112
  obtain ⟨rfl, rfl⟩ := hq111
  refine at_seg [5] [] rfl [] [2, 3, 10] (L2 := [(2, .pointer (some ⟨g105, 0, none⟩)), (3, .pointer (some ⟨g106, 0, none⟩)), (10, .bool (!b8))]) (obs := []) (by kernel_rfl) ?_ ?_
  · intro w hs; exact trivial
  refine at_end ?_
  refine at_thn ?_
  by_cases h113 : b8 = true
  · rw [if_pos h113] at H
    refine at_cond_f rfl (not_ff (h113)) ?_
    refine at_skip ?_
    refine at_thn ?_
    refine at_seq ?_
    refine at_seq ?_
    refine at_reg [(1, .int .i64 p97.At), (3, .int .i64 p101.At)] [15] (L2 := [(15, .bool (p97.At != p101.At))]) (obs := [fun w => w.cell? ⟨g105, 1, none⟩ = some (.int .i64 p97.At), fun w => w.cell? ⟨g106, 1, none⟩ = some (.int .i64 p101.At)]) (by kernel_rfl) ?_ ?_
    · intro w hs; exact ⟨hs.var (k := 1) rfl 1 rfl, hs.var (k := 0) rfl 1 rfl⟩
    refine at_thn ?_
    by_cases h114 : p97.At = p101.At
    · rw [if_pos h114] at H
      refine at_cond_f rfl (bne_eq_false_iff_eq.2 h114) ?_
      refine at_skip ?_
      refine at_thn ?_
      refine at_seq ?_
      refine at_reg [] [4] (L2 := [(4, .bool true)]) (obs := []) (by kernel_rfl) ?_ ?_
      · intro w hs; exact trivial
      refine at_thn ?_
      refine at_ret ?_
      obtain rfl := Option.some.inj H
      refine at_drop (k := 0) rfl rfl ?_
      refine at_drop (k := 0) rfl rfl ?_
      refine at_done (vs := [.bool true]) (obs := []) (.inl rfl) [.tmp 4] [] rfl (by kernel_rfl) (fun w hs => trivial) (fun w hs => ⟨_, _, [], rfl, ⟨rfl, rfl⟩, hle, hs⟩)
    · rw [if_neg h114] at H
      refine at_cond_t rfl (bne_iff_ne.2 h114) ?_
      refine at_seq ?_
      refine at_reg [] [4] (L2 := [(4, .bool false)]) (obs := []) (by kernel_rfl) ?_ ?_
      · intro w hs; exact trivial
      refine at_thn ?_
      refine at_ret ?_
      refine at_then_ret ?_
      obtain rfl := Option.some.inj H
      refine at_drop (k := 0) rfl rfl ?_
      refine at_drop (k := 0) rfl rfl ?_
      refine at_done (vs := [.bool false]) (obs := []) (.inl rfl) [.tmp 4] [] rfl (by kernel_rfl) (fun w hs => trivial) (fun w hs => ⟨_, _, [], rfl, ⟨rfl, rfl⟩, hle, hs⟩)
  · rw [if_neg h113] at H
    refine at_cond_t rfl (not_tt (ff_of h113)) ?_
    refine at_seq ?_
    refine at_reg [] [4] (L2 := [(4, .bool false)]) (obs := []) (by kernel_rfl) ?_ ?_
    · intro w hs; exact trivial
    refine at_thn ?_
    refine at_ret ?_
    refine at_then_ret ?_
    obtain rfl := Option.some.inj H
    refine at_drop (k := 0) rfl rfl ?_
    refine at_drop (k := 0) rfl rfl ?_
    refine at_done (vs := [.bool false]) (obs := []) (.inl rfl) [.tmp 4] [] rfl (by kernel_rfl) (fun w hs => trivial) (fun w hs => ⟨_, _, [], rfl, ⟨rfl, rfl⟩, hle, hs⟩)
end Go.Proofs.Ytocfakbgefdgkaa
