import Derived.Test.YtnhnipdanpcbeaaV0
namespace Go.Proofs.Ytnhnipdanpcbeaa
open Go Eng
set_option linter.unusedVariables false
set_option linter.unusedSimpArgs false
/-! ### loop.example/g00146/spec.l01Source: function 17 -/
mutual
def spec_l01Source_l0 : Nat → Int → Int → (List Int) → Option T_spec_l01Src
  | 0, _, _, _ => none
  | k + 1, x16, x17, p11 => if x16 < (p11.length : Int) then (if x16 < 64 then (if 0 ≤ x16 then (spec_l01Source_l0 k (IntKind.i64.wrap (x16 + 1)) (IntKind.u64.wrap ((bitsV .xor .u64 x17 (IntKind.u64.wrap (rdA 0 p11 x16))) * 1099511628211)) p11) else none) else (spec_l01Source_j0 k x17 p11)) else (spec_l01Source_j0 k x17 p11)
def spec_l01Source_j0 : Nat → Int → (List Int) → Option T_spec_l01Src
  | 0, _, _ => none
  | k + 1, x17123, p11 => if (IntKind.i64.wrap ((p11.length : Int).tdiv 20)) > 12 then (some (⟨p11, 0, x17123, 12⟩ : T_spec_l01Src)) else (some (⟨p11, 0, x17123, IntKind.i64.wrap ((p11.length : Int).tdiv 20)⟩ : T_spec_l01Src))
end
def spec_l01Source (k : Nat) (p11 : List Int) : Option T_spec_l01Src := spec_l01Source_l0 k 0 88172645463325252 p11
set_option maxHeartbeats 4000000 in
set_option maxRecDepth 100000 in
theorem spec_l01Source.calls {k : Nat} {p11 : List Int} {r : T_spec_l01Src} {I0 : Imm} {A12 : Option Addr} {c13 : Nat} (H : spec_l01Source k p11 = some r) (hr14 : Rd (Kd.int .u8) I0 A12 c13 p11) :
    Meets Try.prog 17 ([.slice A12 p11.length c13] : List Value).toArray I0 [] (fun v J M => ∃ (g_1 : Nat) (A_2 : Option Addr) (c_3 : Nat), v = .pointer (some ⟨g_1, 0, none⟩) ∧ M = [[(g_1, .cells #[.slice A_2 r.b.length c_3, .int .i64 r.at_, .int .u64 r.mix, .int .i64 r.size] 83 (0, 0))]] ∧ Rd (Kd.int .u8) J A_2 c_3 r.b) := by
 have hle := ImmLe.refl I0
 unfold spec_l01Source at H
 refine fn_intro (fn := Try.f17) 47 Try.func17 rfl rfl rfl (fun E Fs => ?_)
 refine at_seq (at_reg0 [] [0] [(0, .slice A12 p11.length c13)] ?_)
 refine at_thn (at_seq (at_ops [0, 1, 2, 3] rfl ?_))
 refine at_seg0 [0, 1] [2, 3] [] [0, 6] [(0, .slice A12 p11.length c13), (6, .agg #[.slice A12 p11.length c13, iV 0, .int .u64 88172645463325252, iV 0])] ?_
 refine at_eff rfl rfl ?_
 refine eff_box rfl rfl rfl #[.slice A12 p11.length c13, iV 0, .int .u64 88172645463325252, iV 0] rfl (fun g15 => ?_)
 refine at_seg0 [3] [] [] [0, 3] [(0, .slice A12 p11.length c13), (3, .pointer (some ⟨g15, 0, none⟩))] ?_
 refine at_end (at_thn (at_join (fun L I Ms => ∃ (k17124 : Nat), ∃ (x17123 : Int), L = [(0, .slice A12 p11.length c13), (3, .pointer (some ⟨g15, 0, none⟩))] ∧ Ms = ([(g15, .cells #[.slice A12 p11.length c13, iV 0, .int .u64 x17123, iV 0] 83 (0, 0))] :: Fs) ∧ spec_l01Source_j0 k17124 x17123 p11 = some r ∧ ImmLe I0 I ∧ k17124 ≤ k ∧ Rd (Kd.int .u8) I A12 c13 p11) ?_ ?_))
 ·
  clear H hle hr14
  intro L I Ms h_; obtain ⟨k17124, x17123, hL_, hM_, H, hle, hk17125, hr14⟩ := h_; rw [hL_, hM_]; clear hL_ hM_ L Ms
  rcases k17124 with _ | k17124
  · exact (no_none H).elim
  rw [spec_l01Source_j0] at H
  refine at_seq (at_ops [0, 1, 2, 3, 4, 5, 6] rfl ?_)
  refine at_seg1 [0, 1, 2, 3, 4, 5] [6] [] [3, 35, 37] [(3, .pointer (some ⟨g15, 0, none⟩)), (35, iV (IntKind.i64.wrap ((p11.length : Int).tdiv 20))), (37, .pointer (some ⟨g15, 3, none⟩))] [fun _ => ¬ (20 : Int) = 0] (fun w hs => (by decide : ¬ (20 : Int) = 0)) ?_
  refine at_eff rfl rfl ?_
  refine eff_store 0 rfl rfl rfl rfl rfl rfl (.inl (Nat.le_refl _)) rfl (Nat.le_of_ble_eq_true (by kernel_rfl)) rfl ?_
  refine at_sg ([(g15, .cells #[.slice A12 p11.length c13, iV 0, .int .u64 x17123, iV (IntKind.i64.wrap ((p11.length : Int).tdiv 20))] 83 (0, 0))] :: Fs) ?_
  refine at_end (at_thn (at_seq (at_seq (at_reg1 [(3, iV (IntKind.i64.wrap ((p11.length : Int).tdiv 20)))] [3, 42] [(3, .pointer (some ⟨g15, 0, none⟩)), (42, .bool (decide ((IntKind.i64.wrap ((p11.length : Int).tdiv 20)) > 12)))] [fun w => w.cell? ⟨g15, 3, none⟩ = some (iV (IntKind.i64.wrap ((p11.length : Int).tdiv 20)))] (fun w hs => hs.var (k := 0) rfl 3 rfl) ?_))))
  refine at_thn ?_
  by_cases h17126 : (IntKind.i64.wrap ((p11.length : Int).tdiv 20)) > 12
  ·
   rw [if_pos h17126] at H
   refine at_cond_t rfl (decide_eq_true h17126) ?_
   refine at_ops [0, 1, 2, 3] rfl ?_
   refine at_seg0 [0, 1, 2] [3] [] [3, 45] [(3, .pointer (some ⟨g15, 0, none⟩)), (45, .pointer (some ⟨g15, 3, none⟩))] ?_
   refine at_eff rfl rfl ?_
   refine eff_store 0 rfl rfl rfl rfl rfl rfl (.inl (Nat.le_refl _)) rfl (Nat.le_of_ble_eq_true (by kernel_rfl)) rfl ?_
   refine at_sg ([(g15, .cells #[.slice A12 p11.length c13, iV 0, .int .u64 x17123, iV 12] 83 (0, 0))] :: Fs) ?_
   refine at_end (at_thn (at_seq (at_reg0 [] [2] [(2, .pointer (some ⟨g15, 0, none⟩))] ?_)))
   refine at_thn (at_ret ?_)
   obtain rfl := Option.some.inj H
   exact at_done0 [.pointer (some ⟨g15, 0, none⟩)] (.inl rfl) [.tmp 2] fun w hs => ⟨_, _, [[(g15, .cells #[.slice A12 p11.length c13, iV 0, .int .u64 x17123, iV 12] 83 (0, 0))]], rfl, ⟨g15, A12, c13, rfl, rfl, hr14⟩, hle, hs⟩
  ·
   rw [if_neg h17126] at H
   refine at_cond_f rfl (decide_eq_false h17126) ?_
   refine at_skip (at_thn (at_seq (at_reg0 [] [2] [(2, .pointer (some ⟨g15, 0, none⟩))] ?_)))
   refine at_thn (at_ret ?_)
   obtain rfl := Option.some.inj H
   exact at_done0 [.pointer (some ⟨g15, 0, none⟩)] (.inl rfl) [.tmp 2] fun w hs => ⟨_, _, [[(g15, .cells #[.slice A12 p11.length c13, iV 0, .int .u64 x17123, iV (IntKind.i64.wrap ((p11.length : Int).tdiv 20))] 83 (0, 0))]], rfl, ⟨g15, A12, c13, rfl, rfl, hr14⟩, hle, hs⟩
 ·
  intro Jn16
  refine at_seq (at_reg0 [] [0, 3, 4] [(0, .slice A12 p11.length c13), (3, .pointer (some ⟨g15, 0, none⟩)), (4, iV 0)] ?_)
  refine at_thn (at_block (at_keep [0, 3, 4] (L2 := [(0, .slice A12 p11.length c13), (3, .pointer (some ⟨g15, 0, none⟩)), (4, iV 0)]) rfl ?_))
  refine at_loop (fun k18 L I Ms => ∃ (x16 : Int) (x17 : Int), L = [(0, .slice A12 p11.length c13), (3, .pointer (some ⟨g15, 0, none⟩)), (4, iV x16)] ∧ Ms = ([(g15, .cells #[.slice A12 p11.length c13, iV 0, .int .u64 x17, iV 0] 83 (0, 0))] :: Fs) ∧ spec_l01Source_l0 k18 x16 x17 p11 = some r ∧ ImmLe I0 I ∧ k18 ≤ k ∧ Rd (Kd.int .u8) I A12 c13 p11) ?_ ?_ k ⟨0, 88172645463325252, rfl, rfl, H, hle, Nat.le_refl _, hr14⟩
  · rintro L I Ms ⟨_, _, rfl, rfl, H, _⟩; exact no_none H
  ·
   clear H hle hr14
   intro k18 ih19 L I Ms h_; obtain ⟨x16, x17, hL_, hM_, H, hle, hk20, hr14⟩ := h_; rw [hL_, hM_]; clear hL_ hM_ L Ms
   rw [spec_l01Source_l0] at H
   refine at_seq (at_seq ?_)
   by_cases h21 : x16 < (p11.length : Int)
   ·
    rw [if_pos h21] at H
    refine at_reg1 [(4, .bool true)] [0, 3, 4, 15] [(0, .slice A12 p11.length c13), (3, .pointer (some ⟨g15, 0, none⟩)), (4, iV x16), (15, .bool (decide (x16 < 64)))] [oT (x16 < (p11.length : Int))] (fun w hs => cT (h21)) ?_
    refine at_thn ?_
    by_cases h22 : x16 < 64
    ·
     rw [if_pos h22] at H
     refine at_cond_t rfl (decide_eq_true h22) ?_
     refine at_skip (at_thn (at_seq (at_block ?_)))
     obtain ⟨h23, H⟩ := ite_some H
     refine at_x hmo (fun w => w.cell? ⟨g15, 2, none⟩ = some (.int .u64 x17) ∧ w.cell? ((A12.getD ad0).add (x16.toNat * 1)) = some (.int .u8 (rdA 0 p11 x16))) [14] ?_
     refine at_xseg [0, 1, 2, 3, 4, 5, 6, 7, 8, 9, 10, 11, 12, 13] 1 (#[true, true, true, true, true, true, true, true, true, true, true, true, true, true, false]) rfl (by kernel_rfl) [(4, .int .u64 x17), (8, .int .u8 (rdA 0 p11 x16))] [0, 3, 4, 29, 31] (L2 := [(0, .slice A12 p11.length c13), (3, .pointer (some ⟨g15, 0, none⟩)), (4, iV x16), (29, .int .u64 (IntKind.u64.wrap ((bitsV .xor .u64 x17 (IntKind.u64.wrap (rdA 0 p11 x16))) * 1099511628211))), (31, .pointer (some ⟨g15, 2, none⟩))]) (obs := [fun w => w.cell? ⟨g15, 2, none⟩ = some (.int .u64 x17), fun _ => A12.isSome = true ∧ 0 ≤ x16 ∧ x16 < ((p11.length : Nat) : Int), fun w => w.cell? ((A12.getD ad0).add (x16.toNat * 1)) = some (.int .u8 (rdA 0 p11 x16))]) (by kernel_rfl) (by kernel_rfl) (by kernel_rfl) (.inr fun w hs => ⟨hs.var (k := 0) rfl 2 rfl, hr14.one 0 x16 h23 h21 hs⟩) (fun w hS => ⟨hS.1, ⟨hr14.ne x16 h23 h21, h23, h21⟩, hS.2⟩) (fun w hs => ⟨hs.var (k := 0) rfl 2 rfl, ⟨hr14.ne x16 h23 h21, h23, h21⟩, hr14.one 0 x16 h23 h21 hs⟩) ?_
     refine at_x1 0 14 (#[true, true, true, true, true, true, true, true, true, true, true, true, true, true, true]) rfl (by kernel_rfl) (by kernel_rfl) rfl rfl ?_
     refine eff_store 0 rfl rfl rfl rfl rfl rfl (.inl (Nat.le_refl _)) rfl (Nat.le_of_ble_eq_true (by kernel_rfl)) rfl ?_
     refine at_sg ([(g15, .cells #[.slice A12 p11.length c13, iV 0, .int .u64 (IntKind.u64.wrap ((bitsV .xor .u64 x17 (IntKind.u64.wrap (rdA 0 p11 x16))) * 1099511628211)), iV 0] 83 (0, 0))] :: Fs) ?_
     refine at_xX (by kernel_rfl) ?_
     refine at_xend (by kernel_rfl) ?_
     refine at_in_norm (at_thn (at_reg0 [] [0, 3, 4] [(0, .slice A12 p11.length c13), (3, .pointer (some ⟨g15, 0, none⟩)), (4, iV (IntKind.i64.wrap (x16 + 1)))] ?_))
     refine at_thn (at_keep [0, 3, 4] (L2 := [(0, .slice A12 p11.length c13), (3, .pointer (some ⟨g15, 0, none⟩)), (4, iV (IntKind.i64.wrap (x16 + 1)))]) rfl ?_)
     exact ih19 _ (by omega) _ _ _ ⟨IntKind.i64.wrap (x16 + 1), IntKind.u64.wrap ((bitsV .xor .u64 x17 (IntKind.u64.wrap (rdA 0 p11 x16))) * 1099511628211), rfl, rfl, H, hle, by omega, hr14⟩
    ·
     rw [if_neg h22] at H
     refine at_cond_f rfl (decide_eq_false h22) ?_
     refine at_exit (at_then_exit (at_then_exit (at_in_hit (at_thn (at_keep [0, 3] (L2 := [(0, .slice A12 p11.length c13), (3, .pointer (some ⟨g15, 0, none⟩))]) rfl ?_)))))
     exact Jn16 _ _ _ ⟨_, x17, rfl, rfl, H, hle, by omega, hr14⟩
   ·
    rw [if_neg h21] at H
    refine at_reg1 [(4, .bool false)] [0, 3, 4, 15] [(0, .slice A12 p11.length c13), (3, .pointer (some ⟨g15, 0, none⟩)), (4, iV x16), (15, .bool false)] [oF (x16 < (p11.length : Int))] (fun w hs => cF (h21)) ?_
    refine at_thn (at_cond_f rfl (rfl) ?_)
    refine at_exit (at_then_exit (at_then_exit (at_in_hit (at_thn (at_keep [0, 3] (L2 := [(0, .slice A12 p11.length c13), (3, .pointer (some ⟨g15, 0, none⟩))]) rfl ?_)))))
    exact Jn16 _ _ _ ⟨_, x17, rfl, rfl, H, hle, by omega, hr14⟩

/-! ### (*loop.example/g00146/spec.l01Src).n: function 29 -/
def spec_l01Src_n_j0 : Nat → Int → Int → T_spec_l01Src → Int → Option (Int × T_spec_l01Src)
  | 0, _, _, _, _ => none
  | k + 1, x135, x136, p27, p31 => if ¬ (IntKind.u64.wrap p31) = 0 then (some (IntKind.i64.wrap ((IntKind.u64.wrap (x135 + ((bitsV .xor .u64 (bitsV .xor .u64 (bitsV .xor .u64 p27.mix (IntKind.u64.wrap (p27.mix * 2 ^ 13))) ((bitsV .xor .u64 p27.mix (IntKind.u64.wrap (p27.mix * 2 ^ 13))).fdiv (2 ^ 7))) (IntKind.u64.wrap ((bitsV .xor .u64 (bitsV .xor .u64 p27.mix (IntKind.u64.wrap (p27.mix * 2 ^ 13))) ((bitsV .xor .u64 p27.mix (IntKind.u64.wrap (p27.mix * 2 ^ 13))).fdiv (2 ^ 7))) * 2 ^ 17))).fdiv (2 ^ 20)))).tmod (IntKind.u64.wrap p31)), (⟨p27.b, x136, bitsV .xor .u64 (bitsV .xor .u64 (bitsV .xor .u64 p27.mix (IntKind.u64.wrap (p27.mix * 2 ^ 13))) ((bitsV .xor .u64 p27.mix (IntKind.u64.wrap (p27.mix * 2 ^ 13))).fdiv (2 ^ 7))) (IntKind.u64.wrap ((bitsV .xor .u64 (bitsV .xor .u64 p27.mix (IntKind.u64.wrap (p27.mix * 2 ^ 13))) ((bitsV .xor .u64 p27.mix (IntKind.u64.wrap (p27.mix * 2 ^ 13))).fdiv (2 ^ 7))) * 2 ^ 17)), p27.size⟩ : T_spec_l01Src))) else none
def spec_l01Src_n (k : Nat) (p27 : T_spec_l01Src) (p31 : Int) : Option (Int × T_spec_l01Src) := if p31 ≤ 1 then (some (0, p27)) else (if p27.at_ < (p27.b.length : Int) then (if 0 ≤ p27.at_ then (spec_l01Src_n_j0 k (IntKind.u64.wrap (rdA 0 p27.b p27.at_)) (IntKind.i64.wrap (p27.at_ + 1)) p27 p31) else none) else (spec_l01Src_n_j0 k 0 p27.at_ p27 p31))
set_option maxHeartbeats 4000000 in
set_option maxRecDepth 100000 in
theorem spec_l01Src_n.calls {k : Nat} {p27 : T_spec_l01Src} {p31 : Int} {r : Int × T_spec_l01Src} {I0 : Imm} {g26 : Nat} {A28 : Option Addr} {c29 : Nat} (H : spec_l01Src_n k p27 p31 = some r) (hr30 : Rd (Kd.int .u8) I0 A28 c29 p27.b) :
    Meets Try.prog 29 ([.pointer (some ⟨g26, 0, none⟩), .int .i64 p31] : List Value).toArray I0 [[(g26, .cells #[.slice A28 p27.b.length c29, .int .i64 p27.at_, .int .u64 p27.mix, .int .i64 p27.size] 83 (0, 0))]] (fun v J M => ∃ (A_1 : Option Addr) (c_2 : Nat), v = .int .i64 r.1 ∧ M = [[(g26, .cells #[.slice A_1 r.2.b.length c_2, .int .i64 r.2.at_, .int .u64 r.2.mix, .int .i64 r.2.size] 83 (0, 0))]] ∧ Rd (Kd.int .u8) J A_1 c_2 r.2.b) := by
 have hle := ImmLe.refl I0
 unfold spec_l01Src_n at H
 refine fn_intro (fn := Try.f29) 87 Try.func29 rfl rfl rfl (fun E Fs => ?_)
 refine at_seq (at_reg0 [] [0, 1] [(0, .pointer (some ⟨g26, 0, none⟩)), (1, iV p31)] ?_)
 refine at_thn (at_seq (at_seq (at_reg0 [] [0, 1, 7] [(0, .pointer (some ⟨g26, 0, none⟩)), (1, iV p31), (7, .bool (decide (p31 ≤ 1)))] ?_)))
 refine at_thn ?_
 by_cases h32 : p31 ≤ 1
 ·
  rw [if_pos h32] at H
  refine at_cond_t rfl (decide_eq_true h32) ?_
  refine at_seq (at_reg0 [] [4] [(4, iV 0)] ?_)
  refine at_thn (at_ret (at_then_ret ?_))
  obtain rfl := Option.some.inj H
  exact at_done0 [iV 0] (.inl rfl) [.tmp 4] fun w hs => ⟨_, _, [[(g26, .cells #[.slice A28 p27.b.length c29, iV p27.at_, .int .u64 p27.mix, iV p27.size] 83 (0, 0))]], rfl, ⟨A28, c29, rfl, rfl, hr30⟩, hle, hs⟩
 ·
  rw [if_neg h32] at H
  refine at_cond_f rfl (decide_eq_false h32) ?_
  refine at_skip (at_thn (at_seq (at_reg0 [] [0, 1, 5] [(0, .pointer (some ⟨g26, 0, none⟩)), (1, iV p31), (5, .int .u64 0)] ?_)))
  refine at_thn (at_join (fun L I Ms => ∃ (k137 : Nat), ∃ (x135 : Int) (x136 : Int), L = [(0, .pointer (some ⟨g26, 0, none⟩)), (1, iV p31), (5, .int .u64 x135)] ∧ Ms = ([(g26, .cells #[.slice A28 p27.b.length c29, iV x136, .int .u64 p27.mix, iV p27.size] 83 (0, 0))] :: Fs) ∧ spec_l01Src_n_j0 k137 x135 x136 p27 p31 = some r ∧ ImmLe I0 I ∧ k137 ≤ k ∧ Rd (Kd.int .u8) I A28 c29 p27.b) ?_ ?_)
  ·
   clear H hle hr30
   intro L I Ms h_; obtain ⟨k137, x135, x136, hL_, hM_, H, hle, hk138, hr30⟩ := h_; rw [hL_, hM_]; clear hL_ hM_ L Ms
   rcases k137 with _ | k137
   · exact (no_none H).elim
   rw [spec_l01Src_n_j0] at H
   refine at_seq (at_x hmo (fun w => w.cell? ⟨g26, 2, none⟩ = some (.int .u64 p27.mix) ∧ w.cell? ⟨g26, 2, none⟩ = some (.int .u64 p27.mix)) [13] ?_)
   refine at_xseg [0, 1, 2, 3, 4, 5, 6, 7, 8, 9, 10, 11, 12] 1 (#[true, true, true, true, true, true, true, true, true, true, true, true, true, false]) rfl (by kernel_rfl) [(4, .int .u64 p27.mix), (8, .int .u64 p27.mix)] [0, 1, 5, 47, 49] (L2 := [(0, .pointer (some ⟨g26, 0, none⟩)), (1, iV p31), (5, .int .u64 x135), (47, .int .u64 (bitsV .xor .u64 p27.mix (IntKind.u64.wrap (p27.mix * 2 ^ 13)))), (49, .pointer (some ⟨g26, 2, none⟩))]) (obs := [fun w => w.cell? ⟨g26, 2, none⟩ = some (.int .u64 p27.mix), fun w => w.cell? ⟨g26, 2, none⟩ = some (.int .u64 p27.mix), fun _ => 0 ≤ (13 : Int)]) (by kernel_rfl) (by kernel_rfl) (by kernel_rfl) (.inr fun w hs => ⟨hs.var (k := 0) rfl 2 rfl, hs.var (k := 0) rfl 2 rfl⟩) (fun w hS => ⟨hS.1, hS.2, (by decide : (0 : Int) ≤ 13)⟩) (fun w hs => ⟨hs.var (k := 0) rfl 2 rfl, hs.var (k := 0) rfl 2 rfl, (by decide : (0 : Int) ≤ 13)⟩) ?_
   refine at_x1 0 13 (#[true, true, true, true, true, true, true, true, true, true, true, true, true, true]) rfl (by kernel_rfl) (by kernel_rfl) rfl rfl ?_
   refine eff_store 0 rfl rfl rfl rfl rfl rfl (.inl (Nat.le_refl _)) rfl (Nat.le_of_ble_eq_true (by kernel_rfl)) rfl ?_
   refine at_sg ([(g26, .cells #[.slice A28 p27.b.length c29, iV x136, .int .u64 (bitsV .xor .u64 p27.mix (IntKind.u64.wrap (p27.mix * 2 ^ 13))), iV p27.size] 83 (0, 0))] :: Fs) ?_
   refine at_xX (by kernel_rfl) ?_
   refine at_xend (by kernel_rfl) ?_
   refine at_thn (at_seq (at_x hmo (fun w => w.cell? ⟨g26, 2, none⟩ = some (.int .u64 (bitsV .xor .u64 p27.mix (IntKind.u64.wrap (p27.mix * 2 ^ 13)))) ∧ w.cell? ⟨g26, 2, none⟩ = some (.int .u64 (bitsV .xor .u64 p27.mix (IntKind.u64.wrap (p27.mix * 2 ^ 13))))) [13] ?_))
   refine at_xseg [0, 1, 2, 3, 4, 5, 6, 7, 8, 9, 10, 11, 12] 1 (#[true, true, true, true, true, true, true, true, true, true, true, true, true, false]) rfl (by kernel_rfl) [(4, .int .u64 (bitsV .xor .u64 p27.mix (IntKind.u64.wrap (p27.mix * 2 ^ 13)))), (8, .int .u64 (bitsV .xor .u64 p27.mix (IntKind.u64.wrap (p27.mix * 2 ^ 13))))] [0, 1, 5, 60, 62] (L2 := [(0, .pointer (some ⟨g26, 0, none⟩)), (1, iV p31), (5, .int .u64 x135), (60, .int .u64 (bitsV .xor .u64 (bitsV .xor .u64 p27.mix (IntKind.u64.wrap (p27.mix * 2 ^ 13))) ((bitsV .xor .u64 p27.mix (IntKind.u64.wrap (p27.mix * 2 ^ 13))).fdiv (2 ^ 7)))), (62, .pointer (some ⟨g26, 2, none⟩))]) (obs := [fun w => w.cell? ⟨g26, 2, none⟩ = some (.int .u64 (bitsV .xor .u64 p27.mix (IntKind.u64.wrap (p27.mix * 2 ^ 13)))), fun w => w.cell? ⟨g26, 2, none⟩ = some (.int .u64 (bitsV .xor .u64 p27.mix (IntKind.u64.wrap (p27.mix * 2 ^ 13)))), fun _ => 0 ≤ (7 : Int)]) (by kernel_rfl) (by kernel_rfl) (by kernel_rfl) (.inr fun w hs => ⟨hs.var (k := 0) rfl 2 rfl, hs.var (k := 0) rfl 2 rfl⟩) (fun w hS => ⟨hS.1, hS.2, (by decide : (0 : Int) ≤ 7)⟩) (fun w hs => ⟨hs.var (k := 0) rfl 2 rfl, hs.var (k := 0) rfl 2 rfl, (by decide : (0 : Int) ≤ 7)⟩) ?_
   refine at_x1 0 13 (#[true, true, true, true, true, true, true, true, true, true, true, true, true, true]) rfl (by kernel_rfl) (by kernel_rfl) rfl rfl ?_
   refine eff_store 0 rfl rfl rfl rfl rfl rfl (.inl (Nat.le_refl _)) rfl (Nat.le_of_ble_eq_true (by kernel_rfl)) rfl ?_
   refine at_sg ([(g26, .cells #[.slice A28 p27.b.length c29, iV x136, .int .u64 (bitsV .xor .u64 (bitsV .xor .u64 p27.mix (IntKind.u64.wrap (p27.mix * 2 ^ 13))) ((bitsV .xor .u64 p27.mix (IntKind.u64.wrap (p27.mix * 2 ^ 13))).fdiv (2 ^ 7))), iV p27.size] 83 (0, 0))] :: Fs) ?_
   refine at_xX (by kernel_rfl) ?_
   refine at_xend (by kernel_rfl) ?_
   refine at_thn (at_seq (at_x hmo (fun w => w.cell? ⟨g26, 2, none⟩ = some (.int .u64 (bitsV .xor .u64 (bitsV .xor .u64 p27.mix (IntKind.u64.wrap (p27.mix * 2 ^ 13))) ((bitsV .xor .u64 p27.mix (IntKind.u64.wrap (p27.mix * 2 ^ 13))).fdiv (2 ^ 7)))) ∧ w.cell? ⟨g26, 2, none⟩ = some (.int .u64 (bitsV .xor .u64 (bitsV .xor .u64 p27.mix (IntKind.u64.wrap (p27.mix * 2 ^ 13))) ((bitsV .xor .u64 p27.mix (IntKind.u64.wrap (p27.mix * 2 ^ 13))).fdiv (2 ^ 7))))) [13] ?_))
   refine at_xseg [0, 1, 2, 3, 4, 5, 6, 7, 8, 9, 10, 11, 12] 1 (#[true, true, true, true, true, true, true, true, true, true, true, true, true, false]) rfl (by kernel_rfl) [(4, .int .u64 (bitsV .xor .u64 (bitsV .xor .u64 p27.mix (IntKind.u64.wrap (p27.mix * 2 ^ 13))) ((bitsV .xor .u64 p27.mix (IntKind.u64.wrap (p27.mix * 2 ^ 13))).fdiv (2 ^ 7)))), (8, .int .u64 (bitsV .xor .u64 (bitsV .xor .u64 p27.mix (IntKind.u64.wrap (p27.mix * 2 ^ 13))) ((bitsV .xor .u64 p27.mix (IntKind.u64.wrap (p27.mix * 2 ^ 13))).fdiv (2 ^ 7))))] [0, 1, 5, 73, 75] (L2 := [(0, .pointer (some ⟨g26, 0, none⟩)), (1, iV p31), (5, .int .u64 x135), (73, .int .u64 (bitsV .xor .u64 (bitsV .xor .u64 (bitsV .xor .u64 p27.mix (IntKind.u64.wrap (p27.mix * 2 ^ 13))) ((bitsV .xor .u64 p27.mix (IntKind.u64.wrap (p27.mix * 2 ^ 13))).fdiv (2 ^ 7))) (IntKind.u64.wrap ((bitsV .xor .u64 (bitsV .xor .u64 p27.mix (IntKind.u64.wrap (p27.mix * 2 ^ 13))) ((bitsV .xor .u64 p27.mix (IntKind.u64.wrap (p27.mix * 2 ^ 13))).fdiv (2 ^ 7))) * 2 ^ 17)))), (75, .pointer (some ⟨g26, 2, none⟩))]) (obs := [fun w => w.cell? ⟨g26, 2, none⟩ = some (.int .u64 (bitsV .xor .u64 (bitsV .xor .u64 p27.mix (IntKind.u64.wrap (p27.mix * 2 ^ 13))) ((bitsV .xor .u64 p27.mix (IntKind.u64.wrap (p27.mix * 2 ^ 13))).fdiv (2 ^ 7)))), fun w => w.cell? ⟨g26, 2, none⟩ = some (.int .u64 (bitsV .xor .u64 (bitsV .xor .u64 p27.mix (IntKind.u64.wrap (p27.mix * 2 ^ 13))) ((bitsV .xor .u64 p27.mix (IntKind.u64.wrap (p27.mix * 2 ^ 13))).fdiv (2 ^ 7)))), fun _ => 0 ≤ (17 : Int)]) (by kernel_rfl) (by kernel_rfl) (by kernel_rfl) (.inr fun w hs => ⟨hs.var (k := 0) rfl 2 rfl, hs.var (k := 0) rfl 2 rfl⟩) (fun w hS => ⟨hS.1, hS.2, (by decide : (0 : Int) ≤ 17)⟩) (fun w hs => ⟨hs.var (k := 0) rfl 2 rfl, hs.var (k := 0) rfl 2 rfl, (by decide : (0 : Int) ≤ 17)⟩) ?_
   refine at_x1 0 13 (#[true, true, true, true, true, true, true, true, true, true, true, true, true, true]) rfl (by kernel_rfl) (by kernel_rfl) rfl rfl ?_
   refine eff_store 0 rfl rfl rfl rfl rfl rfl (.inl (Nat.le_refl _)) rfl (Nat.le_of_ble_eq_true (by kernel_rfl)) rfl ?_
   refine at_sg ([(g26, .cells #[.slice A28 p27.b.length c29, iV x136, .int .u64 (bitsV .xor .u64 (bitsV .xor .u64 (bitsV .xor .u64 p27.mix (IntKind.u64.wrap (p27.mix * 2 ^ 13))) ((bitsV .xor .u64 p27.mix (IntKind.u64.wrap (p27.mix * 2 ^ 13))).fdiv (2 ^ 7))) (IntKind.u64.wrap ((bitsV .xor .u64 (bitsV .xor .u64 p27.mix (IntKind.u64.wrap (p27.mix * 2 ^ 13))) ((bitsV .xor .u64 p27.mix (IntKind.u64.wrap (p27.mix * 2 ^ 13))).fdiv (2 ^ 7))) * 2 ^ 17))), iV p27.size] 83 (0, 0))] :: Fs) ?_
   refine at_xX (by kernel_rfl) ?_
   refine at_xend (by kernel_rfl) ?_
   refine at_thn (at_seq ?_)
   obtain ⟨h48139, H⟩ := ite_some H
   refine at_reg1 [(4, .int .u64 (bitsV .xor .u64 (bitsV .xor .u64 (bitsV .xor .u64 p27.mix (IntKind.u64.wrap (p27.mix * 2 ^ 13))) ((bitsV .xor .u64 p27.mix (IntKind.u64.wrap (p27.mix * 2 ^ 13))).fdiv (2 ^ 7))) (IntKind.u64.wrap ((bitsV .xor .u64 (bitsV .xor .u64 p27.mix (IntKind.u64.wrap (p27.mix * 2 ^ 13))) ((bitsV .xor .u64 p27.mix (IntKind.u64.wrap (p27.mix * 2 ^ 13))).fdiv (2 ^ 7))) * 2 ^ 17))))] [4] [(4, iV (IntKind.i64.wrap ((IntKind.u64.wrap (x135 + ((bitsV .xor .u64 (bitsV .xor .u64 (bitsV .xor .u64 p27.mix (IntKind.u64.wrap (p27.mix * 2 ^ 13))) ((bitsV .xor .u64 p27.mix (IntKind.u64.wrap (p27.mix * 2 ^ 13))).fdiv (2 ^ 7))) (IntKind.u64.wrap ((bitsV .xor .u64 (bitsV .xor .u64 p27.mix (IntKind.u64.wrap (p27.mix * 2 ^ 13))) ((bitsV .xor .u64 p27.mix (IntKind.u64.wrap (p27.mix * 2 ^ 13))).fdiv (2 ^ 7))) * 2 ^ 17))).fdiv (2 ^ 20)))).tmod (IntKind.u64.wrap p31))))] [fun w => w.cell? ⟨g26, 2, none⟩ = some (.int .u64 (bitsV .xor .u64 (bitsV .xor .u64 (bitsV .xor .u64 p27.mix (IntKind.u64.wrap (p27.mix * 2 ^ 13))) ((bitsV .xor .u64 p27.mix (IntKind.u64.wrap (p27.mix * 2 ^ 13))).fdiv (2 ^ 7))) (IntKind.u64.wrap ((bitsV .xor .u64 (bitsV .xor .u64 p27.mix (IntKind.u64.wrap (p27.mix * 2 ^ 13))) ((bitsV .xor .u64 p27.mix (IntKind.u64.wrap (p27.mix * 2 ^ 13))).fdiv (2 ^ 7))) * 2 ^ 17)))), fun _ => 0 ≤ (20 : Int), fun _ => ¬ (IntKind.u64.wrap p31) = 0] (fun w hs => ⟨hs.var (k := 0) rfl 2 rfl, (by decide : (0 : Int) ≤ 20), h48139⟩) ?_
   refine at_thn (at_ret ?_)
   obtain rfl := Option.some.inj H
   exact at_done0 [iV (IntKind.i64.wrap ((IntKind.u64.wrap (x135 + ((bitsV .xor .u64 (bitsV .xor .u64 (bitsV .xor .u64 p27.mix (IntKind.u64.wrap (p27.mix * 2 ^ 13))) ((bitsV .xor .u64 p27.mix (IntKind.u64.wrap (p27.mix * 2 ^ 13))).fdiv (2 ^ 7))) (IntKind.u64.wrap ((bitsV .xor .u64 (bitsV .xor .u64 p27.mix (IntKind.u64.wrap (p27.mix * 2 ^ 13))) ((bitsV .xor .u64 p27.mix (IntKind.u64.wrap (p27.mix * 2 ^ 13))).fdiv (2 ^ 7))) * 2 ^ 17))).fdiv (2 ^ 20)))).tmod (IntKind.u64.wrap p31)))] (.inl rfl) [.tmp 4] fun w hs => ⟨_, _, [[(g26, .cells #[.slice A28 p27.b.length c29, iV x136, .int .u64 (bitsV .xor .u64 (bitsV .xor .u64 (bitsV .xor .u64 p27.mix (IntKind.u64.wrap (p27.mix * 2 ^ 13))) ((bitsV .xor .u64 p27.mix (IntKind.u64.wrap (p27.mix * 2 ^ 13))).fdiv (2 ^ 7))) (IntKind.u64.wrap ((bitsV .xor .u64 (bitsV .xor .u64 p27.mix (IntKind.u64.wrap (p27.mix * 2 ^ 13))) ((bitsV .xor .u64 p27.mix (IntKind.u64.wrap (p27.mix * 2 ^ 13))).fdiv (2 ^ 7))) * 2 ^ 17))), iV p27.size] 83 (0, 0))]], rfl, ⟨A28, c29, rfl, rfl, hr30⟩, hle, hs⟩
  ·
   intro Jn33
   refine at_seq (at_regd hmo [(3, iV p27.at_), (7, .slice A28 p27.b.length c29)] [0, 1, 5, 17] (by kernel_rfl) (L2 := [(0, .pointer (some ⟨g26, 0, none⟩)), (1, iV p31), (5, .int .u64 0), (17, .bool (decide (p27.at_ < (p27.b.length : Int))))]) (obs := [fun w => w.cell? ⟨g26, 1, none⟩ = some (iV p27.at_), fun w => w.cell? ⟨g26, 0, none⟩ = some (.slice A28 p27.b.length c29)]) (by kernel_rfl) ?_ ?_)
   · intro w hs; exact ⟨hs.var (k := 0) rfl 1 rfl, hs.var (k := 0) rfl 0 rfl⟩
   refine at_thn ?_
   by_cases h33 : p27.at_ < (p27.b.length : Int)
   ·
    rw [if_pos h33] at H
    refine at_cond_t rfl (decide_eq_true h33) ?_
    refine at_seq ?_
    obtain ⟨h34, H⟩ := ite_some H
    refine at_regd hmo [(3, .slice A28 p27.b.length c29), (7, iV p27.at_), (9, .int .u8 (rdA 0 p27.b p27.at_))] [0, 1, 5] (by kernel_rfl) (L2 := [(0, .pointer (some ⟨g26, 0, none⟩)), (1, iV p31), (5, .int .u64 (IntKind.u64.wrap (rdA 0 p27.b p27.at_)))]) (obs := [fun w => w.cell? ⟨g26, 0, none⟩ = some (.slice A28 p27.b.length c29), fun w => w.cell? ⟨g26, 1, none⟩ = some (iV p27.at_), fun _ => A28.isSome = true ∧ 0 ≤ p27.at_ ∧ p27.at_ < ((p27.b.length : Nat) : Int), fun w => w.cell? ((A28.getD ad0).add (p27.at_.toNat * 1)) = some (.int .u8 (rdA 0 p27.b p27.at_))]) (by kernel_rfl) ?_ ?_
    · intro w hs; exact ⟨hs.var (k := 0) rfl 0 rfl, hs.var (k := 0) rfl 1 rfl, ⟨hr30.ne p27.at_ h34 h33, h34, h33⟩, hr30.one 0 p27.at_ h34 h33 hs⟩
    refine at_thn (at_ops [0, 1, 2, 3, 4, 5, 6, 7, 8] rfl ?_)
    refine at_seg1 [0, 1, 2, 3, 4, 5, 6, 7] [8] [(4, iV p27.at_)] [0, 1, 5, 34, 36] [(0, .pointer (some ⟨g26, 0, none⟩)), (1, iV p31), (5, .int .u64 (IntKind.u64.wrap (rdA 0 p27.b p27.at_))), (34, iV (IntKind.i64.wrap (p27.at_ + 1))), (36, .pointer (some ⟨g26, 1, none⟩))] [fun w => w.cell? ⟨g26, 1, none⟩ = some (iV p27.at_)] (fun w hs => hs.var (k := 0) rfl 1 rfl) ?_
    refine at_eff rfl rfl ?_
    refine eff_store 0 rfl rfl rfl rfl rfl rfl (.inl (Nat.le_refl _)) rfl (Nat.le_of_ble_eq_true (by kernel_rfl)) rfl ?_
    refine at_sg ([(g26, .cells #[.slice A28 p27.b.length c29, iV (IntKind.i64.wrap (p27.at_ + 1)), .int .u64 p27.mix, iV p27.size] 83 (0, 0))] :: Fs) ?_
    refine at_end (at_thn (at_keep [0, 1, 5] (L2 := [(0, .pointer (some ⟨g26, 0, none⟩)), (1, iV p31), (5, .int .u64 (IntKind.u64.wrap (rdA 0 p27.b p27.at_)))]) rfl ?_))
    exact Jn33 _ _ _ ⟨_, IntKind.u64.wrap (rdA 0 p27.b p27.at_), IntKind.i64.wrap (p27.at_ + 1), rfl, rfl, H, hle, by omega, hr30⟩
   ·
    rw [if_neg h33] at H
    refine at_cond_f rfl (decide_eq_false h33) ?_
    refine at_skip (at_thn (at_keep [0, 1, 5] (L2 := [(0, .pointer (some ⟨g26, 0, none⟩)), (1, iV p31), (5, .int .u64 0)]) rfl ?_))
    exact Jn33 _ _ _ ⟨_, 0, p27.at_, rfl, rfl, H, hle, by omega, hr30⟩

/-! ### (*loop.example/g00146/spec.l01Src).point: function 61 -/
def spec_l01Src_point (k : Nat) (p45 : T_spec_l01Src) : Option (Int × T_spec_l01Src) := (spec_l01Src_n k p45 14).bind fun b3 => (if b3.1 = 0 then (some (32, b3.2)) else (if b3.1 = 1 then (some (10, b3.2)) else (if b3.1 = 2 then ((spec_l01Src_n k b3.2 5).bind fun b4 => (if 0 ≤ b4.1 then (if b4.1 < (([0, 9, 27, 31, 127] : List Int).length : Int) then (some (rdA 0 ([0, 9, 27, 31, 127] : List Int) b4.1, b4.2)) else none) else none)) else (if b3.1 = 3 then ((spec_l01Src_n k b3.2 20).bind fun b5 => (if 0 ≤ b5.1 then (if b5.1 < (([768, 879, 880, 4352, 4447, 4448, 11903, 11904, 42191, 42192, 44032, 55203, 63744, 64255, 65281, 65376, 65377, 127744, 129791, 129792] : List Int).length : Int) then (some (rdA 0 ([768, 879, 880, 4352, 4447, 4448, 11903, 11904, 42191, 42192, 44032, 55203, 63744, 64255, 65281, 65376, 65377, 127744, 129791, 129792] : List Int) b5.1, b5.2)) else none) else none)) else (if b3.1 = 4 then ((spec_l01Src_n k b3.2 8).bind fun b6 => (if 0 ≤ b6.1 then (if b6.1 < (([233, 960, 8364, 65533, 1114111, 65535, 55295, 57344] : List Int).length : Int) then (some (rdA 0 ([233, 960, 8364, 65533, 1114111, 65535, 55295, 57344] : List Int) b6.1, b6.2)) else none) else none)) else (if b3.1 = 5 then ((spec_l01Src_n k b3.2 5).bind fun b7 => (if 0 ≤ b7.1 then (if b7.1 < (([46, 44, 45, 40, 36] : List Int).length : Int) then (some (rdA 0 ([46, 44, 45, 40, 36] : List Int) b7.1, b7.2)) else none) else none)) else (if b3.1 = 6 then ((spec_l01Src_n k b3.2 10).bind fun b8 => (some (IntKind.i64.wrap (48 + b8.1), b8.2))) else ((spec_l01Src_n k b3.2 6).bind fun b9 => (some (IntKind.i64.wrap (97 + b9.1), b9.2))))))))))
set_option maxHeartbeats 4000000 in
set_option maxRecDepth 100000 in
theorem spec_l01Src_point.calls {k : Nat} {p45 : T_spec_l01Src} {r : Int × T_spec_l01Src} {I0 : Imm} {g44 : Nat} {A46 : Option Addr} {c47 : Nat} (H : spec_l01Src_point k p45 = some r) (hr48 : Rd (Kd.int .u8) I0 A46 c47 p45.b) :
    Meets Try.prog 61 ([.pointer (some ⟨g44, 0, none⟩)] : List Value).toArray I0 [[(g44, .cells #[.slice A46 p45.b.length c47, .int .i64 p45.at_, .int .u64 p45.mix, .int .i64 p45.size] 83 (0, 0))]] (fun v J M => ∃ (A_1 : Option Addr) (c_2 : Nat), v = .int .i64 r.1 ∧ M = [[(g44, .cells #[.slice A_1 r.2.b.length c_2, .int .i64 r.2.at_, .int .u64 r.2.mix, .int .i64 r.2.size] 83 (0, 0))]] ∧ Rd (Kd.int .u8) J A_1 c_2 r.2.b) := by
 have hle := ImmLe.refl I0
 unfold spec_l01Src_point at H
 refine fn_intro (fn := Try.f61) 45 Try.func61 rfl rfl rfl (fun E Fs => ?_)
 refine at_seq (at_reg0 [] [0] [(0, .pointer (some ⟨g44, 0, none⟩))] ?_)
 refine at_thn (at_seq (at_seq (at_ops [0, 1] rfl ?_)))
 refine at_seg0 [0] [1] [] [0, 3] [(0, .pointer (some ⟨g44, 0, none⟩)), (3, .pointer (some ⟨g44, 0, none⟩))] ?_
 refine at_eff rfl rfl ?_
 obtain ⟨b3, H49, H⟩ := bind_some H
 refine eff_call rfl rfl ok29 rfl rfl (show Meets Try.prog 29 ([.pointer (some ⟨g44, 0, none⟩), iV 14] : List Value).toArray _ [[(g44, .cells #[.slice A46 p45.b.length c47, iV p45.at_, .int .u64 p45.mix, iV p45.size] 83 (0, 0))]] _ from spec_l01Src_n.calls H49 hr48) (Mr := (Fs)) (List.Perm.refl _) (fun v50 J51 M52 hq53 hJ54 => ?_)
 replace hle := hle.trans hJ54
 replace hr48 := hr48.mono hJ54
 obtain ⟨A55, c56, rfl, rfl, hr57⟩ := hq53
 refine at_end (at_thn (at_block (at_seq (at_reg0 [] [0, 4, 5] [(0, .pointer (some ⟨g44, 0, none⟩)), (4, iV b3.1), (5, .bool (b3.1 == 0))] ?_))))
 refine at_thn ?_
 by_cases h58 : b3.1 = 0
 ·
  rw [if_pos h58] at H
  refine at_cond_t rfl (beq_iff_eq.2 h58) ?_
  refine at_seq (at_reg0 [] [2] [(2, iV 32)] ?_)
  refine at_thn (at_ret (at_in_ret (at_then_ret ?_)))
  obtain rfl := Option.some.inj H
  exact at_done0 [iV 32] (.inl rfl) [.tmp 2] fun w hs => ⟨_, _, [[(g44, .cells #[.slice A55 b3.2.b.length c56, iV b3.2.at_, .int .u64 b3.2.mix, iV b3.2.size] 83 (0, 0))]], rfl, ⟨A55, c56, rfl, rfl, hr57⟩, hle, hs⟩
 ·
  rw [if_neg h58] at H
  refine at_cond_f rfl (beq_eq_false_iff_ne.2 h58) ?_
  refine at_seq (at_reg0 [] [0, 4, 7] [(0, .pointer (some ⟨g44, 0, none⟩)), (4, iV b3.1), (7, .bool (b3.1 == 1))] ?_)
  refine at_thn ?_
  by_cases h59 : b3.1 = 1
  ·
   rw [if_pos h59] at H
   refine at_cond_t rfl (beq_iff_eq.2 h59) ?_
   refine at_seq (at_reg0 [] [2] [(2, iV 10)] ?_)
   refine at_thn (at_ret (at_in_ret (at_then_ret ?_)))
   obtain rfl := Option.some.inj H
   exact at_done0 [iV 10] (.inl rfl) [.tmp 2] fun w hs => ⟨_, _, [[(g44, .cells #[.slice A55 b3.2.b.length c56, iV b3.2.at_, .int .u64 b3.2.mix, iV b3.2.size] 83 (0, 0))]], rfl, ⟨A55, c56, rfl, rfl, hr57⟩, hle, hs⟩
  ·
   rw [if_neg h59] at H
   refine at_cond_f rfl (beq_eq_false_iff_ne.2 h59) ?_
   refine at_seq (at_reg0 [] [0, 4, 9] [(0, .pointer (some ⟨g44, 0, none⟩)), (4, iV b3.1), (9, .bool (b3.1 == 2))] ?_)
   refine at_thn ?_
   by_cases h60 : b3.1 = 2
   ·
    rw [if_pos h60] at H
    refine at_cond_t rfl (beq_iff_eq.2 h60) ?_
    refine at_seq (at_ops [0, 1, 2, 3, 4, 5] rfl ?_)
    refine at_eff rfl rfl ?_
    refine eff_buildSlice (e := 2) (cells := #[iV 0, iV 9, iV 27, iV 31, iV 127]) ([0, 9, 27, 31, 127] : List Int).length rfl rfl rfl (by kernel_rfl) (fun g61 => ?_)
    have ho62 := own_lit (K := (Kd.int .i64)) (e := 2) (I := J51) (xs := ([0, 9, 27, 31, 127] : List Int)) (css := [[iV 0], [iV 9], [iV 27], [iV 31], [iV 127]]) (cells := #[iV 0, iV 9, iV 27, iV 31, iV 127]) (b := g61) ⟨rfl, ⟨rfl, ⟨rfl, ⟨rfl, ⟨rfl, trivial⟩⟩⟩⟩⟩ rfl
    refine at_seg0 [1] [2, 3, 4, 5] [] [11, 12] [(11, .slice (some ⟨g61, 0, none⟩ : Option Addr) ([0, 9, 27, 31, 127] : List Int).length (([0, 9, 27, 31, 127] : List Int).length)), (12, .pointer (some ⟨g44, 0, none⟩))] ?_
    refine at_eff rfl rfl ?_
    obtain ⟨b4, H63, H⟩ := bind_some H
    refine eff_call rfl rfl ok29 rfl rfl (show Meets Try.prog 29 ([.pointer (some ⟨g44, 0, none⟩), iV 5] : List Value).toArray _ [[(g44, .cells #[.slice A55 b3.2.b.length c56, iV b3.2.at_, .int .u64 b3.2.mix, iV b3.2.size] 83 (0, 0))]] _ from spec_l01Src_n.calls H63 hr57) (Mr := ([(g61, .cells #[iV 0, iV 9, iV 27, iV 31, iV 127] 2 (0, 0))] :: Fs)) ((perm_at (k := 1) rfl).trans ((List.Perm.refl _).cons _)) (fun v64 J65 M66 hq67 hJ68 => ?_)
    replace hle := hle.trans hJ68
    replace ho62 := ho62.mono hJ68
    replace hr57 := hr57.mono hJ68
    obtain ⟨A69, c70, rfl, rfl, hr71⟩ := hq67
    obtain ⟨h72, H⟩ := ite_some H
    obtain ⟨h73, H⟩ := ite_some H
    refine at_seg1 [3, 4, 5] [] [(4, iV (rdA 0 ([0, 9, 27, 31, 127] : List Int) b4.1))] [2] [(2, iV (rdA 0 ([0, 9, 27, 31, 127] : List Int) b4.1))] [fun _ => (some ⟨g61, 0, none⟩ : Option Addr).isSome = true ∧ 0 ≤ b4.1 ∧ b4.1 < ((([0, 9, 27, 31, 127] : List Int).length : Nat) : Int), fun w => w.cell? (((some ⟨g61, 0, none⟩ : Option Addr).getD ad0).add (b4.1.toNat * 1)) = some (iV (rdA 0 ([0, 9, 27, 31, 127] : List Int) b4.1))] (fun w hs => ⟨⟨ho62.ne b4.1 h72 h73, h72, h73⟩, ho62.one 0 b4.1 h72 h73 hs (k := 1) rfl⟩) ?_
    refine at_end (at_thn (at_ret (at_in_ret (at_then_ret ?_))))
    obtain rfl := Option.some.inj H
    refine at_drop (k := 1) rfl rfl ?_
    exact at_done0 [iV (rdA 0 ([0, 9, 27, 31, 127] : List Int) b4.1)] (.inl rfl) [.tmp 2] fun w hs => ⟨_, _, [[(g44, .cells #[.slice A69 b4.2.b.length c70, iV b4.2.at_, .int .u64 b4.2.mix, iV b4.2.size] 83 (0, 0))]], rfl, ⟨A69, c70, rfl, rfl, hr71⟩, hle, hs⟩
   ·
    rw [if_neg h60] at H
    refine at_cond_f rfl (beq_eq_false_iff_ne.2 h60) ?_
    refine at_seq (at_reg0 [] [0, 4, 16] [(0, .pointer (some ⟨g44, 0, none⟩)), (4, iV b3.1), (16, .bool (b3.1 == 3))] ?_)
    refine at_thn ?_
    by_cases h74 : b3.1 = 3
    ·
     rw [if_pos h74] at H
     refine at_cond_t rfl (beq_iff_eq.2 h74) ?_
     refine at_seq (at_ops [0, 1, 2, 3, 4, 5] rfl ?_)
     refine at_eff rfl rfl ?_
     refine eff_buildSlice (e := 2) (cells := #[iV 768, iV 879, iV 880, iV 4352, iV 4447, iV 4448, iV 11903, iV 11904, iV 42191, iV 42192, iV 44032, iV 55203, iV 63744, iV 64255, iV 65281, iV 65376, iV 65377, iV 127744, iV 129791, iV 129792]) ([768, 879, 880, 4352, 4447, 4448, 11903, 11904, 42191, 42192, 44032, 55203, 63744, 64255, 65281, 65376, 65377, 127744, 129791, 129792] : List Int).length rfl rfl rfl (by kernel_rfl) (fun g75 => ?_)
     have ho76 := own_lit (K := (Kd.int .i64)) (e := 2) (I := J51) (xs := ([768, 879, 880, 4352, 4447, 4448, 11903, 11904, 42191, 42192, 44032, 55203, 63744, 64255, 65281, 65376, 65377, 127744, 129791, 129792] : List Int)) (css := [[iV 768], [iV 879], [iV 880], [iV 4352], [iV 4447], [iV 4448], [iV 11903], [iV 11904], [iV 42191], [iV 42192], [iV 44032], [iV 55203], [iV 63744], [iV 64255], [iV 65281], [iV 65376], [iV 65377], [iV 127744], [iV 129791], [iV 129792]]) (cells := #[iV 768, iV 879, iV 880, iV 4352, iV 4447, iV 4448, iV 11903, iV 11904, iV 42191, iV 42192, iV 44032, iV 55203, iV 63744, iV 64255, iV 65281, iV 65376, iV 65377, iV 127744, iV 129791, iV 129792]) (b := g75) ⟨rfl, ⟨rfl, ⟨rfl, ⟨rfl, ⟨rfl, ⟨rfl, ⟨rfl, ⟨rfl, ⟨rfl, ⟨rfl, ⟨rfl, ⟨rfl, ⟨rfl, ⟨rfl, ⟨rfl, ⟨rfl, ⟨rfl, ⟨rfl, ⟨rfl, ⟨rfl, trivial⟩⟩⟩⟩⟩⟩⟩⟩⟩⟩⟩⟩⟩⟩⟩⟩⟩⟩⟩⟩ rfl
     refine at_seg0 [1] [2, 3, 4, 5] [] [18, 19] [(18, .slice (some ⟨g75, 0, none⟩ : Option Addr) ([768, 879, 880, 4352, 4447, 4448, 11903, 11904, 42191, 42192, 44032, 55203, 63744, 64255, 65281, 65376, 65377, 127744, 129791, 129792] : List Int).length (([768, 879, 880, 4352, 4447, 4448, 11903, 11904, 42191, 42192, 44032, 55203, 63744, 64255, 65281, 65376, 65377, 127744, 129791, 129792] : List Int).length)), (19, .pointer (some ⟨g44, 0, none⟩))] ?_
     refine at_eff rfl rfl ?_
     obtain ⟨b5, H77, H⟩ := bind_some H
     refine eff_call rfl rfl ok29 rfl rfl (show Meets Try.prog 29 ([.pointer (some ⟨g44, 0, none⟩), iV 20] : List Value).toArray _ [[(g44, .cells #[.slice A55 b3.2.b.length c56, iV b3.2.at_, .int .u64 b3.2.mix, iV b3.2.size] 83 (0, 0))]] _ from spec_l01Src_n.calls H77 hr57) (Mr := ([(g75, .cells #[iV 768, iV 879, iV 880, iV 4352, iV 4447, iV 4448, iV 11903, iV 11904, iV 42191, iV 42192, iV 44032, iV 55203, iV 63744, iV 64255, iV 65281, iV 65376, iV 65377, iV 127744, iV 129791, iV 129792] 2 (0, 0))] :: Fs)) ((perm_at (k := 1) rfl).trans ((List.Perm.refl _).cons _)) (fun v78 J79 M80 hq81 hJ82 => ?_)
     replace hle := hle.trans hJ82
     replace ho76 := ho76.mono hJ82
     replace hr57 := hr57.mono hJ82
     obtain ⟨A83, c84, rfl, rfl, hr85⟩ := hq81
     obtain ⟨h86, H⟩ := ite_some H
     obtain ⟨h87, H⟩ := ite_some H
     refine at_seg1 [3, 4, 5] [] [(4, iV (rdA 0 ([768, 879, 880, 4352, 4447, 4448, 11903, 11904, 42191, 42192, 44032, 55203, 63744, 64255, 65281, 65376, 65377, 127744, 129791, 129792] : List Int) b5.1))] [2] [(2, iV (rdA 0 ([768, 879, 880, 4352, 4447, 4448, 11903, 11904, 42191, 42192, 44032, 55203, 63744, 64255, 65281, 65376, 65377, 127744, 129791, 129792] : List Int) b5.1))] [fun _ => (some ⟨g75, 0, none⟩ : Option Addr).isSome = true ∧ 0 ≤ b5.1 ∧ b5.1 < ((([768, 879, 880, 4352, 4447, 4448, 11903, 11904, 42191, 42192, 44032, 55203, 63744, 64255, 65281, 65376, 65377, 127744, 129791, 129792] : List Int).length : Nat) : Int), fun w => w.cell? (((some ⟨g75, 0, none⟩ : Option Addr).getD ad0).add (b5.1.toNat * 1)) = some (iV (rdA 0 ([768, 879, 880, 4352, 4447, 4448, 11903, 11904, 42191, 42192, 44032, 55203, 63744, 64255, 65281, 65376, 65377, 127744, 129791, 129792] : List Int) b5.1))] (fun w hs => ⟨⟨ho76.ne b5.1 h86 h87, h86, h87⟩, ho76.one 0 b5.1 h86 h87 hs (k := 1) rfl⟩) ?_
     refine at_end (at_thn (at_ret (at_in_ret (at_then_ret ?_))))
     obtain rfl := Option.some.inj H
     refine at_drop (k := 1) rfl rfl ?_
     exact at_done0 [iV (rdA 0 ([768, 879, 880, 4352, 4447, 4448, 11903, 11904, 42191, 42192, 44032, 55203, 63744, 64255, 65281, 65376, 65377, 127744, 129791, 129792] : List Int) b5.1)] (.inl rfl) [.tmp 2] fun w hs => ⟨_, _, [[(g44, .cells #[.slice A83 b5.2.b.length c84, iV b5.2.at_, .int .u64 b5.2.mix, iV b5.2.size] 83 (0, 0))]], rfl, ⟨A83, c84, rfl, rfl, hr85⟩, hle, hs⟩
    ·
     rw [if_neg h74] at H
     refine at_cond_f rfl (beq_eq_false_iff_ne.2 h74) ?_
     refine at_seq (at_reg0 [] [0, 4, 23] [(0, .pointer (some ⟨g44, 0, none⟩)), (4, iV b3.1), (23, .bool (b3.1 == 4))] ?_)
     refine at_thn ?_
     by_cases h88 : b3.1 = 4
     ·
      rw [if_pos h88] at H
      refine at_cond_t rfl (beq_iff_eq.2 h88) ?_
      refine at_seq (at_ops [0, 1, 2, 3, 4, 5] rfl ?_)
      refine at_eff rfl rfl ?_
      refine eff_buildSlice (e := 2) (cells := #[iV 233, iV 960, iV 8364, iV 65533, iV 1114111, iV 65535, iV 55295, iV 57344]) ([233, 960, 8364, 65533, 1114111, 65535, 55295, 57344] : List Int).length rfl rfl rfl (by kernel_rfl) (fun g89 => ?_)
      have ho90 := own_lit (K := (Kd.int .i64)) (e := 2) (I := J51) (xs := ([233, 960, 8364, 65533, 1114111, 65535, 55295, 57344] : List Int)) (css := [[iV 233], [iV 960], [iV 8364], [iV 65533], [iV 1114111], [iV 65535], [iV 55295], [iV 57344]]) (cells := #[iV 233, iV 960, iV 8364, iV 65533, iV 1114111, iV 65535, iV 55295, iV 57344]) (b := g89) ⟨rfl, ⟨rfl, ⟨rfl, ⟨rfl, ⟨rfl, ⟨rfl, ⟨rfl, ⟨rfl, trivial⟩⟩⟩⟩⟩⟩⟩⟩ rfl
      refine at_seg0 [1] [2, 3, 4, 5] [] [25, 26] [(25, .slice (some ⟨g89, 0, none⟩ : Option Addr) ([233, 960, 8364, 65533, 1114111, 65535, 55295, 57344] : List Int).length (([233, 960, 8364, 65533, 1114111, 65535, 55295, 57344] : List Int).length)), (26, .pointer (some ⟨g44, 0, none⟩))] ?_
      refine at_eff rfl rfl ?_
      obtain ⟨b6, H91, H⟩ := bind_some H
      refine eff_call rfl rfl ok29 rfl rfl (show Meets Try.prog 29 ([.pointer (some ⟨g44, 0, none⟩), iV 8] : List Value).toArray _ [[(g44, .cells #[.slice A55 b3.2.b.length c56, iV b3.2.at_, .int .u64 b3.2.mix, iV b3.2.size] 83 (0, 0))]] _ from spec_l01Src_n.calls H91 hr57) (Mr := ([(g89, .cells #[iV 233, iV 960, iV 8364, iV 65533, iV 1114111, iV 65535, iV 55295, iV 57344] 2 (0, 0))] :: Fs)) ((perm_at (k := 1) rfl).trans ((List.Perm.refl _).cons _)) (fun v92 J93 M94 hq95 hJ96 => ?_)
      replace hle := hle.trans hJ96
      replace ho90 := ho90.mono hJ96
      replace hr57 := hr57.mono hJ96
      obtain ⟨A97, c98, rfl, rfl, hr99⟩ := hq95
      obtain ⟨h100, H⟩ := ite_some H
      obtain ⟨h101, H⟩ := ite_some H
      refine at_seg1 [3, 4, 5] [] [(4, iV (rdA 0 ([233, 960, 8364, 65533, 1114111, 65535, 55295, 57344] : List Int) b6.1))] [2] [(2, iV (rdA 0 ([233, 960, 8364, 65533, 1114111, 65535, 55295, 57344] : List Int) b6.1))] [fun _ => (some ⟨g89, 0, none⟩ : Option Addr).isSome = true ∧ 0 ≤ b6.1 ∧ b6.1 < ((([233, 960, 8364, 65533, 1114111, 65535, 55295, 57344] : List Int).length : Nat) : Int), fun w => w.cell? (((some ⟨g89, 0, none⟩ : Option Addr).getD ad0).add (b6.1.toNat * 1)) = some (iV (rdA 0 ([233, 960, 8364, 65533, 1114111, 65535, 55295, 57344] : List Int) b6.1))] (fun w hs => ⟨⟨ho90.ne b6.1 h100 h101, h100, h101⟩, ho90.one 0 b6.1 h100 h101 hs (k := 1) rfl⟩) ?_
      refine at_end (at_thn (at_ret (at_in_ret (at_then_ret ?_))))
      obtain rfl := Option.some.inj H
      refine at_drop (k := 1) rfl rfl ?_
      exact at_done0 [iV (rdA 0 ([233, 960, 8364, 65533, 1114111, 65535, 55295, 57344] : List Int) b6.1)] (.inl rfl) [.tmp 2] fun w hs => ⟨_, _, [[(g44, .cells #[.slice A97 b6.2.b.length c98, iV b6.2.at_, .int .u64 b6.2.mix, iV b6.2.size] 83 (0, 0))]], rfl, ⟨A97, c98, rfl, rfl, hr99⟩, hle, hs⟩
     ·
      rw [if_neg h88] at H
      refine at_cond_f rfl (beq_eq_false_iff_ne.2 h88) ?_
      refine at_seq (at_reg0 [] [0, 4, 30] [(0, .pointer (some ⟨g44, 0, none⟩)), (4, iV b3.1), (30, .bool (b3.1 == 5))] ?_)
      refine at_thn ?_
      by_cases h102 : b3.1 = 5
      ·
       rw [if_pos h102] at H
       refine at_cond_t rfl (beq_iff_eq.2 h102) ?_
       refine at_seq (at_ops [0, 1, 2, 3, 4, 5] rfl ?_)
       refine at_eff rfl rfl ?_
       refine eff_buildSlice (e := 2) (cells := #[iV 46, iV 44, iV 45, iV 40, iV 36]) ([46, 44, 45, 40, 36] : List Int).length rfl rfl rfl (by kernel_rfl) (fun g103 => ?_)
       have ho104 := own_lit (K := (Kd.int .i64)) (e := 2) (I := J51) (xs := ([46, 44, 45, 40, 36] : List Int)) (css := [[iV 46], [iV 44], [iV 45], [iV 40], [iV 36]]) (cells := #[iV 46, iV 44, iV 45, iV 40, iV 36]) (b := g103) ⟨rfl, ⟨rfl, ⟨rfl, ⟨rfl, ⟨rfl, trivial⟩⟩⟩⟩⟩ rfl
       refine at_seg0 [1] [2, 3, 4, 5] [] [32, 33] [(32, .slice (some ⟨g103, 0, none⟩ : Option Addr) ([46, 44, 45, 40, 36] : List Int).length (([46, 44, 45, 40, 36] : List Int).length)), (33, .pointer (some ⟨g44, 0, none⟩))] ?_
       refine at_eff rfl rfl ?_
       obtain ⟨b7, H105, H⟩ := bind_some H
       refine eff_call rfl rfl ok29 rfl rfl (show Meets Try.prog 29 ([.pointer (some ⟨g44, 0, none⟩), iV 5] : List Value).toArray _ [[(g44, .cells #[.slice A55 b3.2.b.length c56, iV b3.2.at_, .int .u64 b3.2.mix, iV b3.2.size] 83 (0, 0))]] _ from spec_l01Src_n.calls H105 hr57) (Mr := ([(g103, .cells #[iV 46, iV 44, iV 45, iV 40, iV 36] 2 (0, 0))] :: Fs)) ((perm_at (k := 1) rfl).trans ((List.Perm.refl _).cons _)) (fun v106 J107 M108 hq109 hJ110 => ?_)
       replace hle := hle.trans hJ110
       replace ho104 := ho104.mono hJ110
       replace hr57 := hr57.mono hJ110
       obtain ⟨A111, c112, rfl, rfl, hr113⟩ := hq109
       obtain ⟨h114, H⟩ := ite_some H
       obtain ⟨h115, H⟩ := ite_some H
       refine at_seg1 [3, 4, 5] [] [(4, iV (rdA 0 ([46, 44, 45, 40, 36] : List Int) b7.1))] [2] [(2, iV (rdA 0 ([46, 44, 45, 40, 36] : List Int) b7.1))] [fun _ => (some ⟨g103, 0, none⟩ : Option Addr).isSome = true ∧ 0 ≤ b7.1 ∧ b7.1 < ((([46, 44, 45, 40, 36] : List Int).length : Nat) : Int), fun w => w.cell? (((some ⟨g103, 0, none⟩ : Option Addr).getD ad0).add (b7.1.toNat * 1)) = some (iV (rdA 0 ([46, 44, 45, 40, 36] : List Int) b7.1))] (fun w hs => ⟨⟨ho104.ne b7.1 h114 h115, h114, h115⟩, ho104.one 0 b7.1 h114 h115 hs (k := 1) rfl⟩) ?_
       refine at_end (at_thn (at_ret (at_in_ret (at_then_ret ?_))))
       obtain rfl := Option.some.inj H
       refine at_drop (k := 1) rfl rfl ?_
       exact at_done0 [iV (rdA 0 ([46, 44, 45, 40, 36] : List Int) b7.1)] (.inl rfl) [.tmp 2] fun w hs => ⟨_, _, [[(g44, .cells #[.slice A111 b7.2.b.length c112, iV b7.2.at_, .int .u64 b7.2.mix, iV b7.2.size] 83 (0, 0))]], rfl, ⟨A111, c112, rfl, rfl, hr113⟩, hle, hs⟩
      ·
       rw [if_neg h102] at H
       refine at_cond_f rfl (beq_eq_false_iff_ne.2 h102) ?_
       refine at_seq (at_reg0 [] [0, 37] [(0, .pointer (some ⟨g44, 0, none⟩)), (37, .bool (b3.1 == 6))] ?_)
       refine at_thn ?_
       by_cases h116 : b3.1 = 6
       ·
        rw [if_pos h116] at H
        refine at_cond_t rfl (beq_iff_eq.2 h116) ?_
        refine at_seq (at_ops [0, 1, 2, 3] rfl ?_)
        refine at_seg0 [0] [1, 2, 3] [] [39] [(39, .pointer (some ⟨g44, 0, none⟩))] ?_
        refine at_eff rfl rfl ?_
        obtain ⟨b8, H117, H⟩ := bind_some H
        refine eff_call rfl rfl ok29 rfl rfl (show Meets Try.prog 29 ([.pointer (some ⟨g44, 0, none⟩), iV 10] : List Value).toArray _ [[(g44, .cells #[.slice A55 b3.2.b.length c56, iV b3.2.at_, .int .u64 b3.2.mix, iV b3.2.size] 83 (0, 0))]] _ from spec_l01Src_n.calls H117 hr57) (Mr := (Fs)) (List.Perm.refl _) (fun v118 J119 M120 hq121 hJ122 => ?_)
        replace hle := hle.trans hJ122
        replace hr57 := hr57.mono hJ122
        obtain ⟨A123, c124, rfl, rfl, hr125⟩ := hq121
        refine at_seg0 [2, 3] [] [] [2] [(2, iV (IntKind.i64.wrap (48 + b8.1)))] ?_
        refine at_end (at_thn (at_ret (at_in_ret (at_then_ret ?_))))
        obtain rfl := Option.some.inj H
        exact at_done0 [iV (IntKind.i64.wrap (48 + b8.1))] (.inl rfl) [.tmp 2] fun w hs => ⟨_, _, [[(g44, .cells #[.slice A123 b8.2.b.length c124, iV b8.2.at_, .int .u64 b8.2.mix, iV b8.2.size] 83 (0, 0))]], rfl, ⟨A123, c124, rfl, rfl, hr125⟩, hle, hs⟩
       ·
        rw [if_neg h116] at H
        refine at_cond_f rfl (beq_eq_false_iff_ne.2 h116) ?_
        refine at_skip (at_in_norm (at_thn (at_seq (at_ops [0, 1, 2, 3] rfl ?_))))
        refine at_seg0 [0] [1, 2, 3] [] [42] [(42, .pointer (some ⟨g44, 0, none⟩))] ?_
        refine at_eff rfl rfl ?_
        obtain ⟨b9, H126, H⟩ := bind_some H
        refine eff_call rfl rfl ok29 rfl rfl (show Meets Try.prog 29 ([.pointer (some ⟨g44, 0, none⟩), iV 6] : List Value).toArray _ [[(g44, .cells #[.slice A55 b3.2.b.length c56, iV b3.2.at_, .int .u64 b3.2.mix, iV b3.2.size] 83 (0, 0))]] _ from spec_l01Src_n.calls H126 hr57) (Mr := (Fs)) (List.Perm.refl _) (fun v127 J128 M129 hq130 hJ131 => ?_)
        replace hle := hle.trans hJ131
        replace hr57 := hr57.mono hJ131
        obtain ⟨A132, c133, rfl, rfl, hr134⟩ := hq130
        refine at_seg0 [2, 3] [] [] [2] [(2, iV (IntKind.i64.wrap (97 + b9.1)))] ?_
        refine at_end (at_thn (at_ret ?_))
        obtain rfl := Option.some.inj H
        exact at_done0 [iV (IntKind.i64.wrap (97 + b9.1))] (.inl rfl) [.tmp 2] fun w hs => ⟨_, _, [[(g44, .cells #[.slice A132 b9.2.b.length c133, iV b9.2.at_, .int .u64 b9.2.mix, iV b9.2.size] 83 (0, 0))]], rfl, ⟨A132, c133, rfl, rfl, hr134⟩, hle, hs⟩

/-! ### (*loop.example/g00146/spec.l01Src).points: function 44 -/
def spec_l01Src_points_l0 : Nat → Int → (List Int) → (List Int) → Int → Int → Int → Option ((List Int) × T_spec_l01Src)
  | 0, _, _, _, _, _, _ => none
  | k + 1, x43, x44, x49, x53, x54, x55 => if x43 > 0 then ((spec_l01Src_point k (⟨x49, x53, x54, x55⟩ : T_spec_l01Src)).bind fun b3 => (if x44.length + ([b3.1] : List Int).length ≤ 17592186044416 then (spec_l01Src_points_l0 k (IntKind.i64.wrap (x43 - 1)) (x44 ++ ([b3.1] : List Int)) b3.2.b b3.2.at_ b3.2.mix b3.2.size) else none)) else (some (x44, (⟨x49, x53, x54, x55⟩ : T_spec_l01Src)))
def spec_l01Src_points (k : Nat) (p36 : T_spec_l01Src) (p40 : Int) : Option ((List Int) × T_spec_l01Src) := spec_l01Src_points_l0 k p40 ([] : List Int) p36.b p36.at_ p36.mix p36.size
set_option maxHeartbeats 4000000 in
set_option maxRecDepth 100000 in
theorem spec_l01Src_points.calls {k : Nat} {p36 : T_spec_l01Src} {p40 : Int} {r : (List Int) × T_spec_l01Src} {I0 : Imm} {g35 : Nat} {A37 : Option Addr} {c38 : Nat} (H : spec_l01Src_points k p36 p40 = some r) (hr39 : Rd (Kd.int .u8) I0 A37 c38 p36.b) :
    Meets Try.prog 44 ([.pointer (some ⟨g35, 0, none⟩), .int .i64 p40] : List Value).toArray I0 [[(g35, .cells #[.slice A37 p36.b.length c38, .int .i64 p36.at_, .int .u64 p36.mix, .int .i64 p36.size] 83 (0, 0))]] (fun v J M => ∃ (A_1 : Option Addr) (c_2 : Nat) (s_3 : Seg) (A_4 : Option Addr) (c_5 : Nat), v = .slice A_1 r.1.length c_2 ∧ M = [s_3, [(g35, .cells #[.slice A_4 r.2.b.length c_5, .int .i64 r.2.at_, .int .u64 r.2.mix, .int .i64 r.2.size] 83 (0, 0))]] ∧ Own (Kd.int .i64) 2 J A_1 c_2 r.1 s_3 ∧ Rd (Kd.int .u8) J A_4 c_5 r.2.b) := by
 have hle := ImmLe.refl I0
 unfold spec_l01Src_points at H
 refine fn_intro (fn := Try.f44) 17 Try.func44 rfl rfl rfl (fun E Fs => ?_)
 refine at_seq (at_reg0 [] [0, 1] [(0, .pointer (some ⟨g35, 0, none⟩)), (1, iV p40)] ?_)
 refine at_thn (at_seq (at_ops [0, 1] rfl ?_))
 refine at_eff rfl rfl ?_
 refine eff_buildSlice (e := 2) (cells := #[]) ([] : List Int).length rfl rfl rfl (by kernel_rfl) (fun g41 => ?_)
 have ho42 := own_lit (K := (Kd.int .i64)) (e := 2) (I := I0) (xs := ([] : List Int)) (css := []) (cells := #[]) (b := g41) trivial rfl
 refine at_seg0 [1] [] [] [0, 1, 5] [(0, .pointer (some ⟨g35, 0, none⟩)), (1, iV p40), (5, .slice (some ⟨g41, 0, none⟩ : Option Addr) ([] : List Int).length (([] : List Int).length))] ?_
 refine at_end (at_thn (at_seq (at_block (at_perm ((perm_at (k := 1) rfl).trans ((List.Perm.refl _).cons _)) ?_))))
 refine at_keep [0, 1, 5] (L2 := [(0, .pointer (some ⟨g35, 0, none⟩)), (1, iV p40), (5, .slice (some ⟨g41, 0, none⟩ : Option Addr) ([] : List Int).length (([] : List Int).length))]) rfl ?_
 refine at_loop (fun k56 L I Ms => ∃ (x43 : Int) (x44 : List Int) (A45 : Option Addr) (c46 : Nat) (s47 : Seg) (x49 : List Int) (A50 : Option Addr) (c51 : Nat) (x53 : Int) (x54 : Int) (x55 : Int), L = [(0, .pointer (some ⟨g35, 0, none⟩)), (1, iV x43), (5, .slice A45 x44.length c46)] ∧ Ms = ([(g35, .cells #[.slice A50 x49.length c51, iV x53, .int .u64 x54, iV x55] 83 (0, 0))] :: s47 :: Fs) ∧ spec_l01Src_points_l0 k56 x43 x44 x49 x53 x54 x55 = some r ∧ ImmLe I0 I ∧ k56 ≤ k ∧ Own (Kd.int .i64) 2 I A45 c46 x44 s47 ∧ Rd (Kd.int .u8) I A50 c51 x49) ?_ ?_ k ⟨p40, ([] : List Int), (some ⟨g41, 0, none⟩ : Option Addr), ([] : List Int).length, [(g41, .cells #[] 2 (0, 0))], p36.b, A37, c38, p36.at_, p36.mix, p36.size, rfl, rfl, H, hle, Nat.le_refl _, ho42, hr39⟩
 · rintro L I Ms ⟨_, _, _, _, _, _, _, _, _, _, _, rfl, rfl, H, _⟩; exact no_none H
 ·
  clear H hle ho42 hr39
  intro k56 ih57 L I Ms h_; obtain ⟨x43, x44, A45, c46, s47, x49, A50, c51, x53, x54, x55, hL_, hM_, H, hle, hk58, ho48, hr52⟩ := h_; rw [hL_, hM_]; clear hL_ hM_ L Ms
  rw [spec_l01Src_points_l0] at H
  refine at_seq (at_seq (at_reg0 [] [0, 1, 5, 8] [(0, .pointer (some ⟨g35, 0, none⟩)), (1, iV x43), (5, .slice A45 x44.length c46), (8, .bool (decide (x43 > 0)))] ?_))
  refine at_thn ?_
  by_cases h59 : x43 > 0
  ·
   rw [if_pos h59] at H
   refine at_cond_t rfl (decide_eq_true h59) ?_
   refine at_skip (at_thn (at_seq (at_block (at_ops [0, 1, 2, 3, 4, 5] rfl ?_))))
   refine at_seg0 [0, 1] [2, 3, 4, 5] [] [0, 1, 5, 11, 12] [(0, .pointer (some ⟨g35, 0, none⟩)), (1, iV x43), (5, .slice A45 x44.length c46), (11, .slice A45 x44.length c46), (12, .pointer (some ⟨g35, 0, none⟩))] ?_
   refine at_eff rfl rfl ?_
   obtain ⟨b3, H60, H⟩ := bind_some H
   refine eff_call rfl rfl ok61 rfl rfl (show Meets Try.prog 61 ([.pointer (some ⟨g35, 0, none⟩)] : List Value).toArray _ [[(g35, .cells #[.slice A50 x49.length c51, iV x53, .int .u64 x54, iV x55] 83 (0, 0))]] _ from spec_l01Src_point.calls H60 hr52) (Mr := (s47 :: Fs)) (List.Perm.refl _) (fun v61 J62 M63 hq64 hJ65 => ?_)
   replace hle := hle.trans hJ65
   replace ho48 := ho48.mono hJ65
   replace hr52 := hr52.mono hJ65
   obtain ⟨A66, c67, rfl, rfl, hr68⟩ := hq64
   refine at_eff rfl rfl ?_
   refine eff_buildSlice (e := 2) (cells := #[iV b3.1]) ([b3.1] : List Int).length rfl rfl rfl (by kernel_rfl) (fun g69 => ?_)
   have ho70 := own_lit (K := (Kd.int .i64)) (e := 2) (I := J62) (xs := ([b3.1] : List Int)) (css := [[iV b3.1]]) (cells := #[iV b3.1]) (b := g69) ⟨rfl, trivial⟩ rfl
   refine at_eff rfl rfl ?_
   obtain ⟨h71, H⟩ := ite_some H
   obtain ⟨i_, hi_, hz_, hs_, hb_⟩ := info2
   refine eff_append (K := (Kd.int .i64)) (xs := x44) (ys := ([b3.1] : List Int)) 2 rfl rfl rfl rfl rfl und23 und23 hi_ hz_ hs_ rfl rfl rfl ho48 rfl (fun w hs => ho70.rowAt (k := 0) hs rfl) (by rw [hb_]; omega) (by omega) (fun A72 c73 s74 ho75 => ?_)
   refine at_seg0 [5] [] [] [0, 1, 5] [(0, .pointer (some ⟨g35, 0, none⟩)), (1, iV x43), (5, .slice A72 (x44 ++ ([b3.1] : List Int)).length c73)] ?_
   refine at_end (at_in_norm (at_thn (at_reg0 [] [0, 1, 5] [(0, .pointer (some ⟨g35, 0, none⟩)), (1, iV (IntKind.i64.wrap (x43 - 1))), (5, .slice A72 (x44 ++ ([b3.1] : List Int)).length c73)] ?_)))
   refine at_thn (at_drop (k := 0) rfl rfl ?_)
   refine at_sg ([(g35, .cells #[.slice A66 b3.2.b.length c67, iV b3.2.at_, .int .u64 b3.2.mix, iV b3.2.size] 83 (0, 0))] :: s74 :: Fs) ?_
   refine at_keep [0, 1, 5] (L2 := [(0, .pointer (some ⟨g35, 0, none⟩)), (1, iV (IntKind.i64.wrap (x43 - 1))), (5, .slice A72 (x44 ++ ([b3.1] : List Int)).length c73)]) rfl ?_
   exact ih57 _ (by omega) _ _ _ ⟨IntKind.i64.wrap (x43 - 1), (x44 ++ ([b3.1] : List Int)), A72, c73, s74, b3.2.b, A66, c67, b3.2.at_, b3.2.mix, b3.2.size, rfl, rfl, H, hle, by omega, ho75, hr68⟩
  ·
   rw [if_neg h59] at H
   refine at_cond_f rfl (decide_eq_false h59) ?_
   refine at_exit (at_then_exit (at_then_exit (at_in_hit (at_thn (at_seq (at_reg0 [] [4] [(4, .slice A45 x44.length c46)] ?_))))))
   refine at_thn (at_ret ?_)
   obtain rfl := Option.some.inj H
   refine at_perm ((perm_at (k := 1) rfl).trans ((List.Perm.refl _).cons _)) ?_
   exact at_done0 [.slice A45 x44.length c46] (.inl rfl) [.tmp 4] fun w hs => ⟨_, _, [s47, [(g35, .cells #[.slice A50 x49.length c51, iV x53, .int .u64 x54, iV x55] 83 (0, 0))]], rfl, ⟨A45, c46, s47, A50, c51, rfl, rfl, ho48, hr52⟩, hle, hs⟩

/-! ### (*loop.example/g00146/spec.l01Src).one: function 30 -/
def spec_l01Src_one (k : Nat) (p49 : T_spec_l01Src) (p53 : Int) : Option (Bool × T_spec_l01Src) := (spec_l01Src_n k p49 p53).bind fun b4 => (some ((b4.1 == 0), b4.2))
set_option maxHeartbeats 4000000 in
set_option maxRecDepth 100000 in
theorem spec_l01Src_one.calls {k : Nat} {p49 : T_spec_l01Src} {p53 : Int} {r : Bool × T_spec_l01Src} {I0 : Imm} {g48 : Nat} {A50 : Option Addr} {c51 : Nat} (H : spec_l01Src_one k p49 p53 = some r) (hr52 : Rd (Kd.int .u8) I0 A50 c51 p49.b) :
    Meets Try.prog 30 ([.pointer (some ⟨g48, 0, none⟩), .int .i64 p53] : List Value).toArray I0 [[(g48, .cells #[.slice A50 p49.b.length c51, .int .i64 p49.at_, .int .u64 p49.mix, .int .i64 p49.size] 83 (0, 0))]] (fun v J M => ∃ (A_1 : Option Addr) (c_2 : Nat), v = .bool r.1 ∧ M = [[(g48, .cells #[.slice A_1 r.2.b.length c_2, .int .i64 r.2.at_, .int .u64 r.2.mix, .int .i64 r.2.size] 83 (0, 0))]] ∧ Rd (Kd.int .u8) J A_1 c_2 r.2.b) := by
 have hle := ImmLe.refl I0
 unfold spec_l01Src_one at H
 refine fn_intro (fn := Try.f30) 9 Try.func30 rfl rfl rfl (fun E Fs => ?_)
 refine at_seq (at_reg0 [] [0, 1] [(0, .pointer (some ⟨g48, 0, none⟩)), (1, iV p53)] ?_)
 refine at_thn (at_seq (at_ops [0, 1, 2, 3, 4] rfl ?_))
 refine at_seg0 [0, 1] [2, 3, 4] [] [5, 6] [(5, .pointer (some ⟨g48, 0, none⟩)), (6, iV p53)] ?_
 refine at_eff rfl rfl ?_
 obtain ⟨b4, H54, H⟩ := bind_some H
 refine eff_call rfl rfl ok29 rfl rfl (show Meets Try.prog 29 ([.pointer (some ⟨g48, 0, none⟩), iV p53] : List Value).toArray _ [[(g48, .cells #[.slice A50 p49.b.length c51, iV p49.at_, .int .u64 p49.mix, iV p49.size] 83 (0, 0))]] _ from spec_l01Src_n.calls H54 hr52) (Mr := (Fs)) (List.Perm.refl _) (fun v55 J56 M57 hq58 hJ59 => ?_)
 replace hle := hle.trans hJ59
 replace hr52 := hr52.mono hJ59
 obtain ⟨A60, c61, rfl, rfl, hr62⟩ := hq58
 refine at_seg0 [3, 4] [] [] [4] [(4, .bool (b4.1 == 0))] ?_
 refine at_end (at_thn (at_ret ?_))
 obtain rfl := Option.some.inj H
 exact at_done0 [.bool (b4.1 == 0)] (.inl rfl) [.tmp 4] fun w hs => ⟨_, _, [[(g48, .cells #[.slice A60 b4.2.b.length c61, iV b4.2.at_, .int .u64 b4.2.mix, iV b4.2.size] 83 (0, 0))]], rfl, ⟨A60, c61, rfl, rfl, hr62⟩, hle, hs⟩
end Go.Proofs.Ytnhnipdanpcbeaa
