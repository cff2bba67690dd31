import Derived.Test.YtnhnipdanpcbeaaG0
namespace Go.Proofs.Ytnhnipdanpcbeaa
open Go Eng
set_option linter.unusedVariables false
set_option linter.unusedSimpArgs false
/-! ### loop.example/g00146/spec.l01Source: function 17 -/
mutual
def spec_l01Source_l0 : Nat → Int → Int → (List Int) → Option T_spec_l01Src
  | 0, _, _, _ => none
  | k + 1, x121, x122, p11 => if x121 < (p11.length : Int) then (if x121 < 64 then (if 0 ≤ x121 then (spec_l01Source_l0 k (IntKind.i64.wrap (x121 + 1)) (IntKind.u64.wrap ((bitsV .xor .u64 x122 (IntKind.u64.wrap (rdA 0 p11 x121))) * 1099511628211)) p11) else none) else (spec_l01Source_j0 k x122 p11)) else (spec_l01Source_j0 k x122 p11)
def spec_l01Source_j0 : Nat → Int → (List Int) → Option T_spec_l01Src
  | 0, _, _ => none
  | k + 1, x117, p11 => if (IntKind.i64.wrap ((p11.length : Int).tdiv 20)) > 12 then (some (⟨p11, 0, x117, 12⟩ : T_spec_l01Src)) else (some (⟨p11, 0, x117, IntKind.i64.wrap ((p11.length : Int).tdiv 20)⟩ : T_spec_l01Src))
end
def spec_l01Source (k : Nat) (p11 : List Int) : Option T_spec_l01Src := spec_l01Source_l0 k 0 88172645463325252 p11
set_option maxHeartbeats 4000000 in
set_option maxRecDepth 100000 in
theorem spec_l01Source.calls {k : Nat} {p11 : List Int} {r : T_spec_l01Src} {I0 : Imm} {A12 : Option Addr} {c13 : Nat} (H : spec_l01Source k p11 = some r) (hr14 : Rd (Kd.int .u8) I0 A12 c13 p11) :
    Meets Try.prog 17 ([.slice A12 p11.length c13] : List Value).toArray I0 [] (fun v J M => ∃ (g_1 : Nat) (A_2 : Option Addr) (c_3 : Nat), v = .pointer (some ⟨g_1, 0, none⟩) ∧ M = [[(g_1, .cells #[.slice A_2 r.b.length c_3, .int .i64 r.at_, .int .u64 r.mix, .int .i64 r.size] 83 (0, 0))]] ∧ Rd (Kd.int .u8) J A_2 c_3 r.b) := by
  have hle := ImmLe.refl I0
  unfold spec_l01Source at H
  refine fn_intro (fn := Try.f17) 47 Try.func17 rfl rfl rfl (fun E Fs => ?_)
  refine at_seq ?_
  refine at_reg [] [0] (L2 := [(0, .slice A12 p11.length c13)]) (obs := []) (by kernel_rfl) ?_ ?_
  · intro w hs; exact trivial
  refine at_thn ?_
  refine at_seq ?_
  refine at_ops [0, 1, 2, 3] rfl ?_
  refine at_seg [0, 1] [2, 3] rfl [] [0, 6] (L2 := [(0, .slice A12 p11.length c13), (6, .agg #[.slice A12 p11.length c13, .int .i64 0, .int .u64 88172645463325252, .int .i64 0])]) (obs := []) (by kernel_rfl) ?_ ?_
  · intro w hs; exact trivial
  refine at_eff rfl rfl ?_
  refine eff_box rfl rfl rfl #[.slice A12 p11.length c13, .int .i64 0, .int .u64 88172645463325252, .int .i64 0] rfl (fun g15 => ?_)
  refine at_seg [3] [] rfl [] [0, 3] (L2 := [(0, .slice A12 p11.length c13), (3, .pointer (some ⟨g15, 0, none⟩))]) (obs := []) (by kernel_rfl) ?_ ?_
  · intro w hs; exact trivial
  refine at_end ?_
  refine at_thn ?_
  refine at_join (fun L I Ms => ∃ (k118 : Nat), ∃ (x117 : Int), L = [(0, .slice A12 p11.length c13), (3, .pointer (some ⟨g15, 0, none⟩))] ∧ Ms = ([(g15, .cells #[.slice A12 p11.length c13, .int .i64 0, .int .u64 x117, .int .i64 0] 83 (0, 0))] :: Fs) ∧ spec_l01Source_j0 k118 x117 p11 = some r ∧ ImmLe I0 I ∧ k118 ≤ k ∧ Rd (Kd.int .u8) I A12 c13 p11) ?_ ?_
  · clear H hle hr14
    intro L I Ms h_; obtain ⟨k118, x117, hL_, hM_, H, hle, hk119, hr14⟩ := h_; rw [hL_, hM_]; clear hL_ hM_ L Ms
    rcases k118 with _ | k118
    · exact (no_none H).elim
    rw [spec_l01Source_j0] at H
    refine at_seq ?_
    refine at_ops [0, 1, 2, 3, 4, 5, 6] rfl ?_
    refine at_seg [0, 1, 2, 3, 4, 5] [6] rfl [] [3, 35, 37] (L2 := [(3, .pointer (some ⟨g15, 0, none⟩)), (35, .int .i64 (IntKind.i64.wrap ((p11.length : Int).tdiv 20))), (37, .pointer (some ⟨g15, 3, none⟩))]) (obs := [fun _ => ¬ (20 : Int) = 0]) (by kernel_rfl) ?_ ?_
    · intro w hs; exact (by decide : ¬ (20 : Int) = 0)
    refine at_eff rfl rfl ?_
    refine eff_store 0 rfl rfl rfl rfl rfl rfl (.inl (Nat.le_refl _)) rfl (Nat.le_of_ble_eq_true (by kernel_rfl)) rfl ?_
    refine at_eqM (M1 := ([(g15, .cells #[.slice A12 p11.length c13, .int .i64 0, .int .u64 x117, .int .i64 (IntKind.i64.wrap ((p11.length : Int).tdiv 20))] 83 (0, 0))] :: Fs)) (M2 := ([(g15, .cells #[.slice A12 p11.length c13, .int .i64 0, .int .u64 x117, .int .i64 (IntKind.i64.wrap ((p11.length : Int).tdiv 20))] 83 (0, 0))] :: Fs)) rfl rfl ?_
    refine at_end ?_
    refine at_thn ?_
    refine at_seq ?_
    refine at_seq ?_
    refine at_reg [(3, .int .i64 (IntKind.i64.wrap ((p11.length : Int).tdiv 20)))] [3, 42] (L2 := [(3, .pointer (some ⟨g15, 0, none⟩)), (42, .bool (decide ((IntKind.i64.wrap ((p11.length : Int).tdiv 20)) > 12)))]) (obs := [fun w => w.cell? ⟨g15, 3, none⟩ = some (.int .i64 (IntKind.i64.wrap ((p11.length : Int).tdiv 20)))]) (by kernel_rfl) ?_ ?_
    · intro w hs; exact hs.var (k := 0) rfl 3 rfl
    refine at_thn ?_
    by_cases h120 : (IntKind.i64.wrap ((p11.length : Int).tdiv 20)) > 12
    · rw [if_pos h120] at H
      refine at_cond_t rfl (decide_eq_true h120) ?_
      refine at_ops [0, 1, 2, 3] rfl ?_
      refine at_seg [0, 1, 2] [3] rfl [] [3, 45] (L2 := [(3, .pointer (some ⟨g15, 0, none⟩)), (45, .pointer (some ⟨g15, 3, none⟩))]) (obs := []) (by kernel_rfl) ?_ ?_
      · intro w hs; exact trivial
      refine at_eff rfl rfl ?_
      refine eff_store 0 rfl rfl rfl rfl rfl rfl (.inl (Nat.le_refl _)) rfl (Nat.le_of_ble_eq_true (by kernel_rfl)) rfl ?_
      refine at_eqM (M1 := ([(g15, .cells #[.slice A12 p11.length c13, .int .i64 0, .int .u64 x117, .int .i64 12] 83 (0, 0))] :: Fs)) (M2 := ([(g15, .cells #[.slice A12 p11.length c13, .int .i64 0, .int .u64 x117, .int .i64 12] 83 (0, 0))] :: Fs)) rfl rfl ?_
      refine at_end ?_
      refine at_thn ?_
      refine at_seq ?_
      refine at_reg [] [2] (L2 := [(2, .pointer (some ⟨g15, 0, none⟩))]) (obs := []) (by kernel_rfl) ?_ ?_
      · intro w hs; exact trivial
      refine at_thn ?_
      refine at_ret ?_
      obtain rfl := Option.some.inj H
      refine at_done (vs := [.pointer (some ⟨g15, 0, none⟩)]) (obs := []) (.inl rfl) [.tmp 2] [] rfl (by kernel_rfl) (fun w hs => trivial) (fun w hs => ⟨_, _, [[(g15, .cells #[.slice A12 p11.length c13, .int .i64 0, .int .u64 x117, .int .i64 12] 83 (0, 0))]], rfl, ⟨g15, A12, c13, rfl, rfl, hr14⟩, hle, hs⟩)
    · rw [if_neg h120] at H
      refine at_cond_f rfl (decide_eq_false h120) ?_
      refine at_skip ?_
      refine at_thn ?_
      refine at_seq ?_
      refine at_reg [] [2] (L2 := [(2, .pointer (some ⟨g15, 0, none⟩))]) (obs := []) (by kernel_rfl) ?_ ?_
      · intro w hs; exact trivial
      refine at_thn ?_
      refine at_ret ?_
      obtain rfl := Option.some.inj H
      refine at_done (vs := [.pointer (some ⟨g15, 0, none⟩)]) (obs := []) (.inl rfl) [.tmp 2] [] rfl (by kernel_rfl) (fun w hs => trivial) (fun w hs => ⟨_, _, [[(g15, .cells #[.slice A12 p11.length c13, .int .i64 0, .int .u64 x117, .int .i64 (IntKind.i64.wrap ((p11.length : Int).tdiv 20))] 83 (0, 0))]], rfl, ⟨g15, A12, c13, rfl, rfl, hr14⟩, hle, hs⟩)
  · intro Jn16
    refine at_seq ?_
    refine at_reg [] [0, 3, 4] (L2 := [(0, .slice A12 p11.length c13), (3, .pointer (some ⟨g15, 0, none⟩)), (4, .int .i64 0)]) (obs := []) (by kernel_rfl) ?_ ?_
    · intro w hs; exact trivial
    refine at_thn ?_
    refine at_block ?_
    refine at_keep [0, 3, 4] (L2 := [(0, .slice A12 p11.length c13), (3, .pointer (some ⟨g15, 0, none⟩)), (4, .int .i64 0)]) rfl ?_
    refine at_loop (fun k123 L I Ms => ∃ (x121 : Int) (x122 : Int), L = [(0, .slice A12 p11.length c13), (3, .pointer (some ⟨g15, 0, none⟩)), (4, .int .i64 x121)] ∧ Ms = ([(g15, .cells #[.slice A12 p11.length c13, .int .i64 0, .int .u64 x122, .int .i64 0] 83 (0, 0))] :: Fs) ∧ spec_l01Source_l0 k123 x121 x122 p11 = some r ∧ ImmLe I0 I ∧ k123 ≤ k ∧ Rd (Kd.int .u8) I A12 c13 p11) ?_ ?_ k ⟨0, 88172645463325252, rfl, rfl, H, hle, Nat.le_refl _, hr14⟩
    · rintro L I Ms ⟨_, _, rfl, rfl, H, _⟩; exact no_none H
    · clear H hle hr14
      intro k123 ih124 L I Ms h_; obtain ⟨x121, x122, hL_, hM_, H, hle, hk125, hr14⟩ := h_; rw [hL_, hM_]; clear hL_ hM_ L Ms
      rw [spec_l01Source_l0] at H
      refine at_seq ?_
      refine at_seq ?_
      by_cases h126 : x121 < (p11.length : Int)
      · rw [if_pos h126] at H
        refine at_reg [(4, .bool true)] [0, 3, 4, 15] (L2 := [(0, .slice A12 p11.length c13), (3, .pointer (some ⟨g15, 0, none⟩)), (4, .int .i64 x121), (15, .bool (decide (x121 < 64)))]) (obs := [fun _ => (.bool (decide (x121 < (p11.length : Int))) : Value) = .bool true]) (by kernel_rfl) ?_ ?_
        · intro w hs; exact congrArg Value.bool (decide_eq_true h126)
        refine at_thn ?_
        by_cases h127 : x121 < 64
        · rw [if_pos h127] at H
          refine at_cond_t rfl (decide_eq_true h127) ?_
          refine at_skip ?_
          refine at_thn ?_
          refine at_seq ?_
          refine at_block ?_
          obtain ⟨h128, H⟩ := ite_some H
          refine at_x hmo (fun w => w.cell? ⟨g15, 2, none⟩ = some (.int .u64 x122) ∧ w.cell? ((A12.getD ad0).add (x121.toNat * 1)) = some (.int .u8 (rdA 0 p11 x121))) [14] ?_
          refine at_xseg [0, 1, 2, 3, 4, 5, 6, 7, 8, 9, 10, 11, 12, 13] 1 (#[true, true, true, true, true, true, true, true, true, true, true, true, true, true, false]) rfl (by kernel_rfl) [(4, .int .u64 x122), (8, .int .u8 (rdA 0 p11 x121))] [0, 3, 4, 29, 31] (L2 := [(0, .slice A12 p11.length c13), (3, .pointer (some ⟨g15, 0, none⟩)), (4, .int .i64 x121), (29, .int .u64 (IntKind.u64.wrap ((bitsV .xor .u64 x122 (IntKind.u64.wrap (rdA 0 p11 x121))) * 1099511628211))), (31, .pointer (some ⟨g15, 2, none⟩))]) (obs := [fun w => w.cell? ⟨g15, 2, none⟩ = some (.int .u64 x122), fun _ => A12.isSome = true ∧ 0 ≤ x121 ∧ x121 < ((p11.length : Nat) : Int), fun w => w.cell? ((A12.getD ad0).add (x121.toNat * 1)) = some (.int .u8 (rdA 0 p11 x121))]) (by kernel_rfl) (by kernel_rfl) (by kernel_rfl) (.inr fun w hs => ⟨hs.var (k := 0) rfl 2 rfl, hr14.one 0 x121 h128 h126 hs⟩) (fun w hS => ⟨hS.1, ⟨hr14.ne x121 h128 h126, h128, h126⟩, hS.2⟩) (fun w hs => ⟨hs.var (k := 0) rfl 2 rfl, ⟨hr14.ne x121 h128 h126, h128, h126⟩, hr14.one 0 x121 h128 h126 hs⟩) ?_
          refine at_x1 0 14 (#[true, true, true, true, true, true, true, true, true, true, true, true, true, true, true]) rfl (by kernel_rfl) (by kernel_rfl) rfl rfl ?_
          refine eff_store 0 rfl rfl rfl rfl rfl rfl (.inl (Nat.le_refl _)) rfl (Nat.le_of_ble_eq_true (by kernel_rfl)) rfl ?_
          refine at_eqM (M1 := ([(g15, .cells #[.slice A12 p11.length c13, .int .i64 0, .int .u64 (IntKind.u64.wrap ((bitsV .xor .u64 x122 (IntKind.u64.wrap (rdA 0 p11 x121))) * 1099511628211)), .int .i64 0] 83 (0, 0))] :: Fs)) (M2 := ([(g15, .cells #[.slice A12 p11.length c13, .int .i64 0, .int .u64 (IntKind.u64.wrap ((bitsV .xor .u64 x122 (IntKind.u64.wrap (rdA 0 p11 x121))) * 1099511628211)), .int .i64 0] 83 (0, 0))] :: Fs)) rfl rfl ?_
          refine at_xX (by kernel_rfl) ?_
          refine at_xend (by kernel_rfl) ?_
          refine at_in_norm ?_
          refine at_thn ?_
          refine at_reg [] [0, 3, 4] (L2 := [(0, .slice A12 p11.length c13), (3, .pointer (some ⟨g15, 0, none⟩)), (4, .int .i64 (IntKind.i64.wrap (x121 + 1)))]) (obs := []) (by kernel_rfl) ?_ ?_
          · intro w hs; exact trivial
          refine at_thn ?_
          refine at_keep [0, 3, 4] (L2 := [(0, .slice A12 p11.length c13), (3, .pointer (some ⟨g15, 0, none⟩)), (4, .int .i64 (IntKind.i64.wrap (x121 + 1)))]) rfl ?_
          exact ih124 _ (by omega) _ _ _ ⟨IntKind.i64.wrap (x121 + 1), IntKind.u64.wrap ((bitsV .xor .u64 x122 (IntKind.u64.wrap (rdA 0 p11 x121))) * 1099511628211), rfl, rfl, H, hle, by omega, hr14⟩
        · rw [if_neg h127] at H
          refine at_cond_f rfl (decide_eq_false h127) ?_
          refine at_exit ?_
          refine at_then_exit ?_
          refine at_then_exit ?_
          refine at_in_hit ?_
          refine at_thn ?_
          refine at_keep [0, 3] (L2 := [(0, .slice A12 p11.length c13), (3, .pointer (some ⟨g15, 0, none⟩))]) rfl ?_
          exact Jn16 _ _ _ ⟨_, x122, rfl, rfl, H, hle, by omega, hr14⟩
      · rw [if_neg h126] at H
        refine at_reg [(4, .bool false)] [0, 3, 4, 15] (L2 := [(0, .slice A12 p11.length c13), (3, .pointer (some ⟨g15, 0, none⟩)), (4, .int .i64 x121), (15, .bool false)]) (obs := [fun _ => (.bool (decide (x121 < (p11.length : Int))) : Value) = .bool false]) (by kernel_rfl) ?_ ?_
        · intro w hs; exact congrArg Value.bool (decide_eq_false h126)
        refine at_thn ?_
        refine at_cond_f rfl (rfl) ?_
        refine at_exit ?_
        refine at_then_exit ?_
        refine at_then_exit ?_
        refine at_in_hit ?_
        refine at_thn ?_
        refine at_keep [0, 3] (L2 := [(0, .slice A12 p11.length c13), (3, .pointer (some ⟨g15, 0, none⟩))]) rfl ?_
        exact Jn16 _ _ _ ⟨_, x122, rfl, rfl, H, hle, by omega, hr14⟩

/-! ### (*loop.example/g00146/spec.l01Src).n: function 29 -/
def spec_l01Src_n_j0 : Nat → Int → Int → T_spec_l01Src → Int → Option (Int × T_spec_l01Src)
  | 0, _, _, _, _ => none
  | k + 1, x134, x135, p27, p31 => if ¬ (IntKind.u64.wrap p31) = 0 then (some (IntKind.i64.wrap ((IntKind.u64.wrap (x134 + ((bitsV .xor .u64 (bitsV .xor .u64 (bitsV .xor .u64 p27.mix (IntKind.u64.wrap (p27.mix * 2 ^ 13))) ((bitsV .xor .u64 p27.mix (IntKind.u64.wrap (p27.mix * 2 ^ 13))).fdiv (2 ^ 7))) (IntKind.u64.wrap ((bitsV .xor .u64 (bitsV .xor .u64 p27.mix (IntKind.u64.wrap (p27.mix * 2 ^ 13))) ((bitsV .xor .u64 p27.mix (IntKind.u64.wrap (p27.mix * 2 ^ 13))).fdiv (2 ^ 7))) * 2 ^ 17))).fdiv (2 ^ 20)))).tmod (IntKind.u64.wrap p31)), (⟨p27.b, x135, bitsV .xor .u64 (bitsV .xor .u64 (bitsV .xor .u64 p27.mix (IntKind.u64.wrap (p27.mix * 2 ^ 13))) ((bitsV .xor .u64 p27.mix (IntKind.u64.wrap (p27.mix * 2 ^ 13))).fdiv (2 ^ 7))) (IntKind.u64.wrap ((bitsV .xor .u64 (bitsV .xor .u64 p27.mix (IntKind.u64.wrap (p27.mix * 2 ^ 13))) ((bitsV .xor .u64 p27.mix (IntKind.u64.wrap (p27.mix * 2 ^ 13))).fdiv (2 ^ 7))) * 2 ^ 17)), p27.size⟩ : T_spec_l01Src))) else none
def spec_l01Src_n (k : Nat) (p27 : T_spec_l01Src) (p31 : Int) : Option (Int × T_spec_l01Src) := if p31 ≤ 1 then (some (0, p27)) else (if p27.at_ < (p27.b.length : Int) then (if 0 ≤ p27.at_ then (spec_l01Src_n_j0 k (IntKind.u64.wrap (rdA 0 p27.b p27.at_)) (IntKind.i64.wrap (p27.at_ + 1)) p27 p31) else none) else (spec_l01Src_n_j0 k 0 p27.at_ p27 p31))
set_option maxHeartbeats 4000000 in
set_option maxRecDepth 100000 in
theorem spec_l01Src_n.calls {k : Nat} {p27 : T_spec_l01Src} {p31 : Int} {r : Int × T_spec_l01Src} {I0 : Imm} {g26 : Nat} {A28 : Option Addr} {c29 : Nat} (H : spec_l01Src_n k p27 p31 = some r) (hr30 : Rd (Kd.int .u8) I0 A28 c29 p27.b) :
    Meets Try.prog 29 ([.pointer (some ⟨g26, 0, none⟩), .int .i64 p31] : List Value).toArray I0 [[(g26, .cells #[.slice A28 p27.b.length c29, .int .i64 p27.at_, .int .u64 p27.mix, .int .i64 p27.size] 83 (0, 0))]] (fun v J M => ∃ (A_1 : Option Addr) (c_2 : Nat), v = .int .i64 r.1 ∧ M = [[(g26, .cells #[.slice A_1 r.2.b.length c_2, .int .i64 r.2.at_, .int .u64 r.2.mix, .int .i64 r.2.size] 83 (0, 0))]] ∧ Rd (Kd.int .u8) J A_1 c_2 r.2.b) := by
  have hle := ImmLe.refl I0
  unfold spec_l01Src_n at H
  refine fn_intro (fn := Try.f29) 87 Try.func29 rfl rfl rfl (fun E Fs => ?_)
  refine at_seq ?_
  refine at_reg [] [0, 1] (L2 := [(0, .pointer (some ⟨g26, 0, none⟩)), (1, .int .i64 p31)]) (obs := []) (by kernel_rfl) ?_ ?_
  · intro w hs; exact trivial
  refine at_thn ?_
  refine at_seq ?_
  refine at_seq ?_
  refine at_reg [] [0, 1, 7] (L2 := [(0, .pointer (some ⟨g26, 0, none⟩)), (1, .int .i64 p31), (7, .bool (decide (p31 ≤ 1)))]) (obs := []) (by kernel_rfl) ?_ ?_
  · intro w hs; exact trivial
  refine at_thn ?_
  by_cases h32 : p31 ≤ 1
  · rw [if_pos h32] at H
    refine at_cond_t rfl (decide_eq_true h32) ?_
    refine at_seq ?_
    refine at_reg [] [4] (L2 := [(4, .int .i64 0)]) (obs := []) (by kernel_rfl) ?_ ?_
    · intro w hs; exact trivial
    refine at_thn ?_
    refine at_ret ?_
    refine at_then_ret ?_
    obtain rfl := Option.some.inj H
    refine at_done (vs := [.int .i64 0]) (obs := []) (.inl rfl) [.tmp 4] [] rfl (by kernel_rfl) (fun w hs => trivial) (fun w hs => ⟨_, _, [[(g26, .cells #[.slice A28 p27.b.length c29, .int .i64 p27.at_, .int .u64 p27.mix, .int .i64 p27.size] 83 (0, 0))]], rfl, ⟨A28, c29, rfl, rfl, hr30⟩, hle, hs⟩)
  · rw [if_neg h32] at H
    refine at_cond_f rfl (decide_eq_false h32) ?_
    refine at_skip ?_
    refine at_thn ?_
    refine at_seq ?_
    refine at_reg [] [0, 1, 5] (L2 := [(0, .pointer (some ⟨g26, 0, none⟩)), (1, .int .i64 p31), (5, .int .u64 0)]) (obs := []) (by kernel_rfl) ?_ ?_
    · intro w hs; exact trivial
    refine at_thn ?_
    refine at_join (fun L I Ms => ∃ (k136 : Nat), ∃ (x134 : Int) (x135 : Int), L = [(0, .pointer (some ⟨g26, 0, none⟩)), (1, .int .i64 p31), (5, .int .u64 x134)] ∧ Ms = ([(g26, .cells #[.slice A28 p27.b.length c29, .int .i64 x135, .int .u64 p27.mix, .int .i64 p27.size] 83 (0, 0))] :: Fs) ∧ spec_l01Src_n_j0 k136 x134 x135 p27 p31 = some r ∧ ImmLe I0 I ∧ k136 ≤ k ∧ Rd (Kd.int .u8) I A28 c29 p27.b) ?_ ?_
    · clear H hle hr30
      intro L I Ms h_; obtain ⟨k136, x134, x135, hL_, hM_, H, hle, hk137, hr30⟩ := h_; rw [hL_, hM_]; clear hL_ hM_ L Ms
      rcases k136 with _ | k136
      · exact (no_none H).elim
      rw [spec_l01Src_n_j0] at H
      refine at_seq ?_
      refine at_x hmo (fun w => w.cell? ⟨g26, 2, none⟩ = some (.int .u64 p27.mix) ∧ w.cell? ⟨g26, 2, none⟩ = some (.int .u64 p27.mix)) [13] ?_
      refine at_xseg [0, 1, 2, 3, 4, 5, 6, 7, 8, 9, 10, 11, 12] 1 (#[true, true, true, true, true, true, true, true, true, true, true, true, true, false]) rfl (by kernel_rfl) [(4, .int .u64 p27.mix), (8, .int .u64 p27.mix)] [0, 1, 5, 47, 49] (L2 := [(0, .pointer (some ⟨g26, 0, none⟩)), (1, .int .i64 p31), (5, .int .u64 x134), (47, .int .u64 (bitsV .xor .u64 p27.mix (IntKind.u64.wrap (p27.mix * 2 ^ 13)))), (49, .pointer (some ⟨g26, 2, none⟩))]) (obs := [fun w => w.cell? ⟨g26, 2, none⟩ = some (.int .u64 p27.mix), fun w => w.cell? ⟨g26, 2, none⟩ = some (.int .u64 p27.mix), fun _ => 0 ≤ (13 : Int)]) (by kernel_rfl) (by kernel_rfl) (by kernel_rfl) (.inr fun w hs => ⟨hs.var (k := 0) rfl 2 rfl, hs.var (k := 0) rfl 2 rfl⟩) (fun w hS => ⟨hS.1, hS.2, (by decide : (0 : Int) ≤ 13)⟩) (fun w hs => ⟨hs.var (k := 0) rfl 2 rfl, hs.var (k := 0) rfl 2 rfl, (by decide : (0 : Int) ≤ 13)⟩) ?_
      refine at_x1 0 13 (#[true, true, true, true, true, true, true, true, true, true, true, true, true, true]) rfl (by kernel_rfl) (by kernel_rfl) rfl rfl ?_
      refine eff_store 0 rfl rfl rfl rfl rfl rfl (.inl (Nat.le_refl _)) rfl (Nat.le_of_ble_eq_true (by kernel_rfl)) rfl ?_
      refine at_eqM (M1 := ([(g26, .cells #[.slice A28 p27.b.length c29, .int .i64 x135, .int .u64 (bitsV .xor .u64 p27.mix (IntKind.u64.wrap (p27.mix * 2 ^ 13))), .int .i64 p27.size] 83 (0, 0))] :: Fs)) (M2 := ([(g26, .cells #[.slice A28 p27.b.length c29, .int .i64 x135, .int .u64 (bitsV .xor .u64 p27.mix (IntKind.u64.wrap (p27.mix * 2 ^ 13))), .int .i64 p27.size] 83 (0, 0))] :: Fs)) rfl rfl ?_
      refine at_xX (by kernel_rfl) ?_
      refine at_xend (by kernel_rfl) ?_
      refine at_thn ?_
      refine at_seq ?_
      refine at_x hmo (fun w => w.cell? ⟨g26, 2, none⟩ = some (.int .u64 (bitsV .xor .u64 p27.mix (IntKind.u64.wrap (p27.mix * 2 ^ 13)))) ∧ w.cell? ⟨g26, 2, none⟩ = some (.int .u64 (bitsV .xor .u64 p27.mix (IntKind.u64.wrap (p27.mix * 2 ^ 13))))) [13] ?_
      refine at_xseg [0, 1, 2, 3, 4, 5, 6, 7, 8, 9, 10, 11, 12] 1 (#[true, true, true, true, true, true, true, true, true, true, true, true, true, false]) rfl (by kernel_rfl) [(4, .int .u64 (bitsV .xor .u64 p27.mix (IntKind.u64.wrap (p27.mix * 2 ^ 13)))), (8, .int .u64 (bitsV .xor .u64 p27.mix (IntKind.u64.wrap (p27.mix * 2 ^ 13))))] [0, 1, 5, 60, 62] (L2 := [(0, .pointer (some ⟨g26, 0, none⟩)), (1, .int .i64 p31), (5, .int .u64 x134), (60, .int .u64 (bitsV .xor .u64 (bitsV .xor .u64 p27.mix (IntKind.u64.wrap (p27.mix * 2 ^ 13))) ((bitsV .xor .u64 p27.mix (IntKind.u64.wrap (p27.mix * 2 ^ 13))).fdiv (2 ^ 7)))), (62, .pointer (some ⟨g26, 2, none⟩))]) (obs := [fun w => w.cell? ⟨g26, 2, none⟩ = some (.int .u64 (bitsV .xor .u64 p27.mix (IntKind.u64.wrap (p27.mix * 2 ^ 13)))), fun w => w.cell? ⟨g26, 2, none⟩ = some (.int .u64 (bitsV .xor .u64 p27.mix (IntKind.u64.wrap (p27.mix * 2 ^ 13)))), fun _ => 0 ≤ (7 : Int)]) (by kernel_rfl) (by kernel_rfl) (by kernel_rfl) (.inr fun w hs => ⟨hs.var (k := 0) rfl 2 rfl, hs.var (k := 0) rfl 2 rfl⟩) (fun w hS => ⟨hS.1, hS.2, (by decide : (0 : Int) ≤ 7)⟩) (fun w hs => ⟨hs.var (k := 0) rfl 2 rfl, hs.var (k := 0) rfl 2 rfl, (by decide : (0 : Int) ≤ 7)⟩) ?_
      refine at_x1 0 13 (#[true, true, true, true, true, true, true, true, true, true, true, true, true, true]) rfl (by kernel_rfl) (by kernel_rfl) rfl rfl ?_
      refine eff_store 0 rfl rfl rfl rfl rfl rfl (.inl (Nat.le_refl _)) rfl (Nat.le_of_ble_eq_true (by kernel_rfl)) rfl ?_
      refine at_eqM (M1 := ([(g26, .cells #[.slice A28 p27.b.length c29, .int .i64 x135, .int .u64 (bitsV .xor .u64 (bitsV .xor .u64 p27.mix (IntKind.u64.wrap (p27.mix * 2 ^ 13))) ((bitsV .xor .u64 p27.mix (IntKind.u64.wrap (p27.mix * 2 ^ 13))).fdiv (2 ^ 7))), .int .i64 p27.size] 83 (0, 0))] :: Fs)) (M2 := ([(g26, .cells #[.slice A28 p27.b.length c29, .int .i64 x135, .int .u64 (bitsV .xor .u64 (bitsV .xor .u64 p27.mix (IntKind.u64.wrap (p27.mix * 2 ^ 13))) ((bitsV .xor .u64 p27.mix (IntKind.u64.wrap (p27.mix * 2 ^ 13))).fdiv (2 ^ 7))), .int .i64 p27.size] 83 (0, 0))] :: Fs)) rfl rfl ?_
      refine at_xX (by kernel_rfl) ?_
      refine at_xend (by kernel_rfl) ?_
      refine at_thn ?_
      refine at_seq ?_
      refine at_x hmo (fun w => w.cell? ⟨g26, 2, none⟩ = some (.int .u64 (bitsV .xor .u64 (bitsV .xor .u64 p27.mix (IntKind.u64.wrap (p27.mix * 2 ^ 13))) ((bitsV .xor .u64 p27.mix (IntKind.u64.wrap (p27.mix * 2 ^ 13))).fdiv (2 ^ 7)))) ∧ w.cell? ⟨g26, 2, none⟩ = some (.int .u64 (bitsV .xor .u64 (bitsV .xor .u64 p27.mix (IntKind.u64.wrap (p27.mix * 2 ^ 13))) ((bitsV .xor .u64 p27.mix (IntKind.u64.wrap (p27.mix * 2 ^ 13))).fdiv (2 ^ 7))))) [13] ?_
      refine at_xseg [0, 1, 2, 3, 4, 5, 6, 7, 8, 9, 10, 11, 12] 1 (#[true, true, true, true, true, true, true, true, true, true, true, true, true, false]) rfl (by kernel_rfl) [(4, .int .u64 (bitsV .xor .u64 (bitsV .xor .u64 p27.mix (IntKind.u64.wrap (p27.mix * 2 ^ 13))) ((bitsV .xor .u64 p27.mix (IntKind.u64.wrap (p27.mix * 2 ^ 13))).fdiv (2 ^ 7)))), (8, .int .u64 (bitsV .xor .u64 (bitsV .xor .u64 p27.mix (IntKind.u64.wrap (p27.mix * 2 ^ 13))) ((bitsV .xor .u64 p27.mix (IntKind.u64.wrap (p27.mix * 2 ^ 13))).fdiv (2 ^ 7))))] [0, 1, 5, 73, 75] (L2 := [(0, .pointer (some ⟨g26, 0, none⟩)), (1, .int .i64 p31), (5, .int .u64 x134), (73, .int .u64 (bitsV .xor .u64 (bitsV .xor .u64 (bitsV .xor .u64 p27.mix (IntKind.u64.wrap (p27.mix * 2 ^ 13))) ((bitsV .xor .u64 p27.mix (IntKind.u64.wrap (p27.mix * 2 ^ 13))).fdiv (2 ^ 7))) (IntKind.u64.wrap ((bitsV .xor .u64 (bitsV .xor .u64 p27.mix (IntKind.u64.wrap (p27.mix * 2 ^ 13))) ((bitsV .xor .u64 p27.mix (IntKind.u64.wrap (p27.mix * 2 ^ 13))).fdiv (2 ^ 7))) * 2 ^ 17)))), (75, .pointer (some ⟨g26, 2, none⟩))]) (obs := [fun w => w.cell? ⟨g26, 2, none⟩ = some (.int .u64 (bitsV .xor .u64 (bitsV .xor .u64 p27.mix (IntKind.u64.wrap (p27.mix * 2 ^ 13))) ((bitsV .xor .u64 p27.mix (IntKind.u64.wrap (p27.mix * 2 ^ 13))).fdiv (2 ^ 7)))), fun w => w.cell? ⟨g26, 2, none⟩ = some (.int .u64 (bitsV .xor .u64 (bitsV .xor .u64 p27.mix (IntKind.u64.wrap (p27.mix * 2 ^ 13))) ((bitsV .xor .u64 p27.mix (IntKind.u64.wrap (p27.mix * 2 ^ 13))).fdiv (2 ^ 7)))), fun _ => 0 ≤ (17 : Int)]) (by kernel_rfl) (by kernel_rfl) (by kernel_rfl) (.inr fun w hs => ⟨hs.var (k := 0) rfl 2 rfl, hs.var (k := 0) rfl 2 rfl⟩) (fun w hS => ⟨hS.1, hS.2, (by decide : (0 : Int) ≤ 17)⟩) (fun w hs => ⟨hs.var (k := 0) rfl 2 rfl, hs.var (k := 0) rfl 2 rfl, (by decide : (0 : Int) ≤ 17)⟩) ?_
      refine at_x1 0 13 (#[true, true, true, true, true, true, true, true, true, true, true, true, true, true]) rfl (by kernel_rfl) (by kernel_rfl) rfl rfl ?_
      refine eff_store 0 rfl rfl rfl rfl rfl rfl (.inl (Nat.le_refl _)) rfl (Nat.le_of_ble_eq_true (by kernel_rfl)) rfl ?_
      refine at_eqM (M1 := ([(g26, .cells #[.slice A28 p27.b.length c29, .int .i64 x135, .int .u64 (bitsV .xor .u64 (bitsV .xor .u64 (bitsV .xor .u64 p27.mix (IntKind.u64.wrap (p27.mix * 2 ^ 13))) ((bitsV .xor .u64 p27.mix (IntKind.u64.wrap (p27.mix * 2 ^ 13))).fdiv (2 ^ 7))) (IntKind.u64.wrap ((bitsV .xor .u64 (bitsV .xor .u64 p27.mix (IntKind.u64.wrap (p27.mix * 2 ^ 13))) ((bitsV .xor .u64 p27.mix (IntKind.u64.wrap (p27.mix * 2 ^ 13))).fdiv (2 ^ 7))) * 2 ^ 17))), .int .i64 p27.size] 83 (0, 0))] :: Fs)) (M2 := ([(g26, .cells #[.slice A28 p27.b.length c29, .int .i64 x135, .int .u64 (bitsV .xor .u64 (bitsV .xor .u64 (bitsV .xor .u64 p27.mix (IntKind.u64.wrap (p27.mix * 2 ^ 13))) ((bitsV .xor .u64 p27.mix (IntKind.u64.wrap (p27.mix * 2 ^ 13))).fdiv (2 ^ 7))) (IntKind.u64.wrap ((bitsV .xor .u64 (bitsV .xor .u64 p27.mix (IntKind.u64.wrap (p27.mix * 2 ^ 13))) ((bitsV .xor .u64 p27.mix (IntKind.u64.wrap (p27.mix * 2 ^ 13))).fdiv (2 ^ 7))) * 2 ^ 17))), .int .i64 p27.size] 83 (0, 0))] :: Fs)) rfl rfl ?_
      refine at_xX (by kernel_rfl) ?_
      refine at_xend (by kernel_rfl) ?_
      refine at_thn ?_
      refine at_seq ?_
      obtain ⟨h138, H⟩ := ite_some H
      refine at_reg [(4, .int .u64 (bitsV .xor .u64 (bitsV .xor .u64 (bitsV .xor .u64 p27.mix (IntKind.u64.wrap (p27.mix * 2 ^ 13))) ((bitsV .xor .u64 p27.mix (IntKind.u64.wrap (p27.mix * 2 ^ 13))).fdiv (2 ^ 7))) (IntKind.u64.wrap ((bitsV .xor .u64 (bitsV .xor .u64 p27.mix (IntKind.u64.wrap (p27.mix * 2 ^ 13))) ((bitsV .xor .u64 p27.mix (IntKind.u64.wrap (p27.mix * 2 ^ 13))).fdiv (2 ^ 7))) * 2 ^ 17))))] [4] (L2 := [(4, .int .i64 (IntKind.i64.wrap ((IntKind.u64.wrap (x134 + ((bitsV .xor .u64 (bitsV .xor .u64 (bitsV .xor .u64 p27.mix (IntKind.u64.wrap (p27.mix * 2 ^ 13))) ((bitsV .xor .u64 p27.mix (IntKind.u64.wrap (p27.mix * 2 ^ 13))).fdiv (2 ^ 7))) (IntKind.u64.wrap ((bitsV .xor .u64 (bitsV .xor .u64 p27.mix (IntKind.u64.wrap (p27.mix * 2 ^ 13))) ((bitsV .xor .u64 p27.mix (IntKind.u64.wrap (p27.mix * 2 ^ 13))).fdiv (2 ^ 7))) * 2 ^ 17))).fdiv (2 ^ 20)))).tmod (IntKind.u64.wrap p31))))]) (obs := [fun w => w.cell? ⟨g26, 2, none⟩ = some (.int .u64 (bitsV .xor .u64 (bitsV .xor .u64 (bitsV .xor .u64 p27.mix (IntKind.u64.wrap (p27.mix * 2 ^ 13))) ((bitsV .xor .u64 p27.mix (IntKind.u64.wrap (p27.mix * 2 ^ 13))).fdiv (2 ^ 7))) (IntKind.u64.wrap ((bitsV .xor .u64 (bitsV .xor .u64 p27.mix (IntKind.u64.wrap (p27.mix * 2 ^ 13))) ((bitsV .xor .u64 p27.mix (IntKind.u64.wrap (p27.mix * 2 ^ 13))).fdiv (2 ^ 7))) * 2 ^ 17)))), fun _ => 0 ≤ (20 : Int), fun _ => ¬ (IntKind.u64.wrap p31) = 0]) (by kernel_rfl) ?_ ?_
      · intro w hs; exact ⟨hs.var (k := 0) rfl 2 rfl, (by decide : (0 : Int) ≤ 20), h138⟩
      refine at_thn ?_
      refine at_ret ?_
      obtain rfl := Option.some.inj H
      refine at_done (vs := [.int .i64 (IntKind.i64.wrap ((IntKind.u64.wrap (x134 + ((bitsV .xor .u64 (bitsV .xor .u64 (bitsV .xor .u64 p27.mix (IntKind.u64.wrap (p27.mix * 2 ^ 13))) ((bitsV .xor .u64 p27.mix (IntKind.u64.wrap (p27.mix * 2 ^ 13))).fdiv (2 ^ 7))) (IntKind.u64.wrap ((bitsV .xor .u64 (bitsV .xor .u64 p27.mix (IntKind.u64.wrap (p27.mix * 2 ^ 13))) ((bitsV .xor .u64 p27.mix (IntKind.u64.wrap (p27.mix * 2 ^ 13))).fdiv (2 ^ 7))) * 2 ^ 17))).fdiv (2 ^ 20)))).tmod (IntKind.u64.wrap p31)))]) (obs := []) (.inl rfl) [.tmp 4] [] rfl (by kernel_rfl) (fun w hs => trivial) (fun w hs => ⟨_, _, [[(g26, .cells #[.slice A28 p27.b.length c29, .int .i64 x135, .int .u64 (bitsV .xor .u64 (bitsV .xor .u64 (bitsV .xor .u64 p27.mix (IntKind.u64.wrap (p27.mix * 2 ^ 13))) ((bitsV .xor .u64 p27.mix (IntKind.u64.wrap (p27.mix * 2 ^ 13))).fdiv (2 ^ 7))) (IntKind.u64.wrap ((bitsV .xor .u64 (bitsV .xor .u64 p27.mix (IntKind.u64.wrap (p27.mix * 2 ^ 13))) ((bitsV .xor .u64 p27.mix (IntKind.u64.wrap (p27.mix * 2 ^ 13))).fdiv (2 ^ 7))) * 2 ^ 17))), .int .i64 p27.size] 83 (0, 0))]], rfl, ⟨A28, c29, rfl, rfl, hr30⟩, hle, hs⟩)
    · intro Jn33
      refine at_seq ?_
      refine at_regd hmo [(3, .int .i64 p27.at_), (7, .slice A28 p27.b.length c29)] [0, 1, 5, 17] (by kernel_rfl) (L2 := [(0, .pointer (some ⟨g26, 0, none⟩)), (1, .int .i64 p31), (5, .int .u64 0), (17, .bool (decide (p27.at_ < (p27.b.length : Int))))]) (obs := [fun w => w.cell? ⟨g26, 1, none⟩ = some (.int .i64 p27.at_), fun w => w.cell? ⟨g26, 0, none⟩ = some (.slice A28 p27.b.length c29)]) (by kernel_rfl) ?_ ?_
      · intro w hs; exact ⟨hs.var (k := 0) rfl 1 rfl, hs.var (k := 0) rfl 0 rfl⟩
      refine at_thn ?_
      by_cases h139 : p27.at_ < (p27.b.length : Int)
      · rw [if_pos h139] at H
        refine at_cond_t rfl (decide_eq_true h139) ?_
        refine at_seq ?_
        obtain ⟨h140, H⟩ := ite_some H
        refine at_regd hmo [(3, .slice A28 p27.b.length c29), (7, .int .i64 p27.at_), (9, .int .u8 (rdA 0 p27.b p27.at_))] [0, 1, 5] (by kernel_rfl) (L2 := [(0, .pointer (some ⟨g26, 0, none⟩)), (1, .int .i64 p31), (5, .int .u64 (IntKind.u64.wrap (rdA 0 p27.b p27.at_)))]) (obs := [fun w => w.cell? ⟨g26, 0, none⟩ = some (.slice A28 p27.b.length c29), fun w => w.cell? ⟨g26, 1, none⟩ = some (.int .i64 p27.at_), fun _ => A28.isSome = true ∧ 0 ≤ p27.at_ ∧ p27.at_ < ((p27.b.length : Nat) : Int), fun w => w.cell? ((A28.getD ad0).add (p27.at_.toNat * 1)) = some (.int .u8 (rdA 0 p27.b p27.at_))]) (by kernel_rfl) ?_ ?_
        · intro w hs; exact ⟨hs.var (k := 0) rfl 0 rfl, hs.var (k := 0) rfl 1 rfl, ⟨hr30.ne p27.at_ h140 h139, h140, h139⟩, hr30.one 0 p27.at_ h140 h139 hs⟩
        refine at_thn ?_
        refine at_ops [0, 1, 2, 3, 4, 5, 6, 7, 8] rfl ?_
        refine at_seg [0, 1, 2, 3, 4, 5, 6, 7] [8] rfl [(4, .int .i64 p27.at_)] [0, 1, 5, 34, 36] (L2 := [(0, .pointer (some ⟨g26, 0, none⟩)), (1, .int .i64 p31), (5, .int .u64 (IntKind.u64.wrap (rdA 0 p27.b p27.at_))), (34, .int .i64 (IntKind.i64.wrap (p27.at_ + 1))), (36, .pointer (some ⟨g26, 1, none⟩))]) (obs := [fun w => w.cell? ⟨g26, 1, none⟩ = some (.int .i64 p27.at_)]) (by kernel_rfl) ?_ ?_
        · intro w hs; exact hs.var (k := 0) rfl 1 rfl
        refine at_eff rfl rfl ?_
        refine eff_store 0 rfl rfl rfl rfl rfl rfl (.inl (Nat.le_refl _)) rfl (Nat.le_of_ble_eq_true (by kernel_rfl)) rfl ?_
        refine at_eqM (M1 := ([(g26, .cells #[.slice A28 p27.b.length c29, .int .i64 (IntKind.i64.wrap (p27.at_ + 1)), .int .u64 p27.mix, .int .i64 p27.size] 83 (0, 0))] :: Fs)) (M2 := ([(g26, .cells #[.slice A28 p27.b.length c29, .int .i64 (IntKind.i64.wrap (p27.at_ + 1)), .int .u64 p27.mix, .int .i64 p27.size] 83 (0, 0))] :: Fs)) rfl rfl ?_
        refine at_end ?_
        refine at_thn ?_
        refine at_keep [0, 1, 5] (L2 := [(0, .pointer (some ⟨g26, 0, none⟩)), (1, .int .i64 p31), (5, .int .u64 (IntKind.u64.wrap (rdA 0 p27.b p27.at_)))]) rfl ?_
        exact Jn33 _ _ _ ⟨_, IntKind.u64.wrap (rdA 0 p27.b p27.at_), IntKind.i64.wrap (p27.at_ + 1), rfl, rfl, H, hle, by omega, hr30⟩
      · rw [if_neg h139] at H
        refine at_cond_f rfl (decide_eq_false h139) ?_
        refine at_skip ?_
        refine at_thn ?_
        refine at_keep [0, 1, 5] (L2 := [(0, .pointer (some ⟨g26, 0, none⟩)), (1, .int .i64 p31), (5, .int .u64 0)]) rfl ?_
        exact Jn33 _ _ _ ⟨_, 0, p27.at_, rfl, rfl, H, hle, by omega, hr30⟩

/-! ### (*loop.example/g00146/spec.l01Src).point: function 61 -/
def spec_l01Src_point (k : Nat) (p45 : T_spec_l01Src) : Option (Int × T_spec_l01Src) := (spec_l01Src_n k p45 14).bind fun b3 => (if b3.1 = 0 then (some (32, b3.2)) else (if b3.1 = 1 then (some (10, b3.2)) else (if b3.1 = 2 then ((spec_l01Src_n k b3.2 5).bind fun b4 => (if 0 ≤ b4.1 then (if b4.1 < (([0, 9, 27, 31, 127] : List Int).length : Int) then (some (rdA 0 ([0, 9, 27, 31, 127] : List Int) b4.1, b4.2)) else none) else none)) else (if b3.1 = 3 then ((spec_l01Src_n k b3.2 20).bind fun b5 => (if 0 ≤ b5.1 then (if b5.1 < (([768, 879, 880, 4352, 4447, 4448, 11903, 11904, 42191, 42192, 44032, 55203, 63744, 64255, 65281, 65376, 65377, 127744, 129791, 129792] : List Int).length : Int) then (some (rdA 0 ([768, 879, 880, 4352, 4447, 4448, 11903, 11904, 42191, 42192, 44032, 55203, 63744, 64255, 65281, 65376, 65377, 127744, 129791, 129792] : List Int) b5.1, b5.2)) else none) else none)) else (if b3.1 = 4 then ((spec_l01Src_n k b3.2 8).bind fun b6 => (if 0 ≤ b6.1 then (if b6.1 < (([233, 960, 8364, 65533, 1114111, 65535, 55295, 57344] : List Int).length : Int) then (some (rdA 0 ([233, 960, 8364, 65533, 1114111, 65535, 55295, 57344] : List Int) b6.1, b6.2)) else none) else none)) else (if b3.1 = 5 then ((spec_l01Src_n k b3.2 5).bind fun b7 => (if 0 ≤ b7.1 then (if b7.1 < (([46, 44, 45, 40, 36] : List Int).length : Int) then (some (rdA 0 ([46, 44, 45, 40, 36] : List Int) b7.1, b7.2)) else none) else none)) else (if b3.1 = 6 then ((spec_l01Src_n k b3.2 10).bind fun b8 => (some (IntKind.i64.wrap (48 + b8.1), b8.2))) else ((spec_l01Src_n k b3.2 6).bind fun b9 => (some (IntKind.i64.wrap (97 + b9.1), b9.2))))))))))
set_option maxHeartbeats 4000000 in
set_option maxRecDepth 100000 in
theorem spec_l01Src_point.calls {k : Nat} {p45 : T_spec_l01Src} {r : Int × T_spec_l01Src} {I0 : Imm} {g44 : Nat} {A46 : Option Addr} {c47 : Nat} (H : spec_l01Src_point k p45 = some r) (hr48 : Rd (Kd.int .u8) I0 A46 c47 p45.b) :
    Meets Try.prog 61 ([.pointer (some ⟨g44, 0, none⟩)] : List Value).toArray I0 [[(g44, .cells #[.slice A46 p45.b.length c47, .int .i64 p45.at_, .int .u64 p45.mix, .int .i64 p45.size] 83 (0, 0))]] (fun v J M => ∃ (A_1 : Option Addr) (c_2 : Nat), v = .int .i64 r.1 ∧ M = [[(g44, .cells #[.slice A_1 r.2.b.length c_2, .int .i64 r.2.at_, .int .u64 r.2.mix, .int .i64 r.2.size] 83 (0, 0))]] ∧ Rd (Kd.int .u8) J A_1 c_2 r.2.b) := by
  have hle := ImmLe.refl I0
  unfold spec_l01Src_point at H
  refine fn_intro (fn := Try.f61) 45 Try.func61 rfl rfl rfl (fun E Fs => ?_)
  refine at_seq ?_
  refine at_reg [] [0] (L2 := [(0, .pointer (some ⟨g44, 0, none⟩))]) (obs := []) (by kernel_rfl) ?_ ?_
  · intro w hs; exact trivial
  refine at_thn ?_
  refine at_seq ?_
  refine at_seq ?_
  refine at_ops [0, 1] rfl ?_
  refine at_seg [0] [1] rfl [] [0, 3] (L2 := [(0, .pointer (some ⟨g44, 0, none⟩)), (3, .pointer (some ⟨g44, 0, none⟩))]) (obs := []) (by kernel_rfl) ?_ ?_
  · intro w hs; exact trivial
  refine at_eff rfl rfl ?_
  obtain ⟨b3, H49, H⟩ := bind_some H
  refine eff_call rfl rfl ok29 rfl rfl (show Meets Try.prog 29 ([.pointer (some ⟨g44, 0, none⟩), .int .i64 14] : List Value).toArray _ [[(g44, .cells #[.slice A46 p45.b.length c47, .int .i64 p45.at_, .int .u64 p45.mix, .int .i64 p45.size] 83 (0, 0))]] _ from spec_l01Src_n.calls H49 hr48) (Mr := (Fs)) (List.Perm.refl _) (fun v50 J51 M52 hq53 hJ54 => ?_)
  replace hle := hle.trans hJ54
  replace hr48 := hr48.mono hJ54
  obtain ⟨A55, c56, rfl, rfl, hr57⟩ := hq53
  refine at_end ?_
  refine at_thn ?_
  refine at_block ?_
  refine at_seq ?_
  refine at_reg [] [0, 4, 5] (L2 := [(0, .pointer (some ⟨g44, 0, none⟩)), (4, .int .i64 b3.1), (5, .bool (b3.1 == 0))]) (obs := []) (by kernel_rfl) ?_ ?_
  · intro w hs; exact trivial
  refine at_thn ?_
  by_cases h58 : b3.1 = 0
  · rw [if_pos h58] at H
    refine at_cond_t rfl (beq_iff_eq.2 h58) ?_
    refine at_seq ?_
    refine at_reg [] [2] (L2 := [(2, .int .i64 32)]) (obs := []) (by kernel_rfl) ?_ ?_
    · intro w hs; exact trivial
    refine at_thn ?_
    refine at_ret ?_
    refine at_in_ret ?_
    refine at_then_ret ?_
    obtain rfl := Option.some.inj H
    refine at_done (vs := [.int .i64 32]) (obs := []) (.inl rfl) [.tmp 2] [] rfl (by kernel_rfl) (fun w hs => trivial) (fun w hs => ⟨_, _, [[(g44, .cells #[.slice A55 b3.2.b.length c56, .int .i64 b3.2.at_, .int .u64 b3.2.mix, .int .i64 b3.2.size] 83 (0, 0))]], rfl, ⟨A55, c56, rfl, rfl, hr57⟩, hle, hs⟩)
  · rw [if_neg h58] at H
    refine at_cond_f rfl (beq_eq_false_iff_ne.2 h58) ?_
    refine at_seq ?_
    refine at_reg [] [0, 4, 7] (L2 := [(0, .pointer (some ⟨g44, 0, none⟩)), (4, .int .i64 b3.1), (7, .bool (b3.1 == 1))]) (obs := []) (by kernel_rfl) ?_ ?_
    · intro w hs; exact trivial
    refine at_thn ?_
    by_cases h59 : b3.1 = 1
    · rw [if_pos h59] at H
      refine at_cond_t rfl (beq_iff_eq.2 h59) ?_
      refine at_seq ?_
      refine at_reg [] [2] (L2 := [(2, .int .i64 10)]) (obs := []) (by kernel_rfl) ?_ ?_
      · intro w hs; exact trivial
      refine at_thn ?_
      refine at_ret ?_
      refine at_in_ret ?_
      refine at_then_ret ?_
      obtain rfl := Option.some.inj H
      refine at_done (vs := [.int .i64 10]) (obs := []) (.inl rfl) [.tmp 2] [] rfl (by kernel_rfl) (fun w hs => trivial) (fun w hs => ⟨_, _, [[(g44, .cells #[.slice A55 b3.2.b.length c56, .int .i64 b3.2.at_, .int .u64 b3.2.mix, .int .i64 b3.2.size] 83 (0, 0))]], rfl, ⟨A55, c56, rfl, rfl, hr57⟩, hle, hs⟩)
    · rw [if_neg h59] at H
      refine at_cond_f rfl (beq_eq_false_iff_ne.2 h59) ?_
      refine at_seq ?_
      refine at_reg [] [0, 4, 9] (L2 := [(0, .pointer (some ⟨g44, 0, none⟩)), (4, .int .i64 b3.1), (9, .bool (b3.1 == 2))]) (obs := []) (by kernel_rfl) ?_ ?_
      · intro w hs; exact trivial
      refine at_thn ?_
      by_cases h60 : b3.1 = 2
      · rw [if_pos h60] at H
        refine at_cond_t rfl (beq_iff_eq.2 h60) ?_
        refine at_seq ?_
        refine at_ops [0, 1, 2, 3, 4, 5] rfl ?_
        refine at_eff rfl rfl ?_
        refine eff_buildSlice (e := 2) (cells := #[.int .i64 0, .int .i64 9, .int .i64 27, .int .i64 31, .int .i64 127]) ([0, 9, 27, 31, 127] : List Int).length rfl rfl rfl (by kernel_rfl) (fun g61 => ?_)
        have ho62 := own_lit (K := (Kd.int .i64)) (e := 2) (I := J51) (xs := ([0, 9, 27, 31, 127] : List Int)) (css := [[.int .i64 0], [.int .i64 9], [.int .i64 27], [.int .i64 31], [.int .i64 127]]) (cells := #[.int .i64 0, .int .i64 9, .int .i64 27, .int .i64 31, .int .i64 127]) (b := g61) ⟨rfl, ⟨rfl, ⟨rfl, ⟨rfl, ⟨rfl, trivial⟩⟩⟩⟩⟩ rfl
        refine at_seg [1] [2, 3, 4, 5] rfl [] [11, 12] (L2 := [(11, .slice (some ⟨g61, 0, none⟩ : Option Addr) ([0, 9, 27, 31, 127] : List Int).length (([0, 9, 27, 31, 127] : List Int).length)), (12, .pointer (some ⟨g44, 0, none⟩))]) (obs := []) (by kernel_rfl) ?_ ?_
        · intro w hs; exact trivial
        refine at_eff rfl rfl ?_
        obtain ⟨b4, H63, H⟩ := bind_some H
        refine eff_call rfl rfl ok29 rfl rfl (show Meets Try.prog 29 ([.pointer (some ⟨g44, 0, none⟩), .int .i64 5] : List Value).toArray _ [[(g44, .cells #[.slice A55 b3.2.b.length c56, .int .i64 b3.2.at_, .int .u64 b3.2.mix, .int .i64 b3.2.size] 83 (0, 0))]] _ from spec_l01Src_n.calls H63 hr57) (Mr := ([(g61, .cells #[.int .i64 0, .int .i64 9, .int .i64 27, .int .i64 31, .int .i64 127] 2 (0, 0))] :: Fs)) ((perm_at (k := 1) rfl).trans ((List.Perm.refl _).cons _)) (fun v64 J65 M66 hq67 hJ68 => ?_)
        replace hle := hle.trans hJ68
        replace ho62 := ho62.mono hJ68
        replace hr57 := hr57.mono hJ68
        obtain ⟨A69, c70, rfl, rfl, hr71⟩ := hq67
        obtain ⟨h72, H⟩ := ite_some H
        obtain ⟨h73, H⟩ := ite_some H
        refine at_seg [3, 4, 5] [] rfl [(4, .int .i64 (rdA 0 ([0, 9, 27, 31, 127] : List Int) b4.1))] [2] (L2 := [(2, .int .i64 (rdA 0 ([0, 9, 27, 31, 127] : List Int) b4.1))]) (obs := [fun _ => (some ⟨g61, 0, none⟩ : Option Addr).isSome = true ∧ 0 ≤ b4.1 ∧ b4.1 < ((([0, 9, 27, 31, 127] : List Int).length : Nat) : Int), fun w => w.cell? (((some ⟨g61, 0, none⟩ : Option Addr).getD ad0).add (b4.1.toNat * 1)) = some (.int .i64 (rdA 0 ([0, 9, 27, 31, 127] : List Int) b4.1))]) (by kernel_rfl) ?_ ?_
        · intro w hs; exact ⟨⟨ho62.ne b4.1 h72 h73, h72, h73⟩, ho62.one 0 b4.1 h72 h73 hs (k := 1) rfl⟩
        refine at_end ?_
        refine at_thn ?_
        refine at_ret ?_
        refine at_in_ret ?_
        refine at_then_ret ?_
        obtain rfl := Option.some.inj H
        refine at_drop (k := 1) rfl rfl ?_
        refine at_eqM (M1 := ([(g44, .cells #[.slice A69 b4.2.b.length c70, .int .i64 b4.2.at_, .int .u64 b4.2.mix, .int .i64 b4.2.size] 83 (0, 0))] :: Fs)) (M2 := ([(g44, .cells #[.slice A69 b4.2.b.length c70, .int .i64 b4.2.at_, .int .u64 b4.2.mix, .int .i64 b4.2.size] 83 (0, 0))] :: Fs)) rfl rfl ?_
        refine at_done (vs := [.int .i64 (rdA 0 ([0, 9, 27, 31, 127] : List Int) b4.1)]) (obs := []) (.inl rfl) [.tmp 2] [] rfl (by kernel_rfl) (fun w hs => trivial) (fun w hs => ⟨_, _, [[(g44, .cells #[.slice A69 b4.2.b.length c70, .int .i64 b4.2.at_, .int .u64 b4.2.mix, .int .i64 b4.2.size] 83 (0, 0))]], rfl, ⟨A69, c70, rfl, rfl, hr71⟩, hle, hs⟩)
      · rw [if_neg h60] at H
        refine at_cond_f rfl (beq_eq_false_iff_ne.2 h60) ?_
        refine at_seq ?_
        refine at_reg [] [0, 4, 16] (L2 := [(0, .pointer (some ⟨g44, 0, none⟩)), (4, .int .i64 b3.1), (16, .bool (b3.1 == 3))]) (obs := []) (by kernel_rfl) ?_ ?_
        · intro w hs; exact trivial
        refine at_thn ?_
        by_cases h74 : b3.1 = 3
        · rw [if_pos h74] at H
          refine at_cond_t rfl (beq_iff_eq.2 h74) ?_
          refine at_seq ?_
          refine at_ops [0, 1, 2, 3, 4, 5] rfl ?_
          refine at_eff rfl rfl ?_
          refine eff_buildSlice (e := 2) (cells := #[.int .i64 768, .int .i64 879, .int .i64 880, .int .i64 4352, .int .i64 4447, .int .i64 4448, .int .i64 11903, .int .i64 11904, .int .i64 42191, .int .i64 42192, .int .i64 44032, .int .i64 55203, .int .i64 63744, .int .i64 64255, .int .i64 65281, .int .i64 65376, .int .i64 65377, .int .i64 127744, .int .i64 129791, .int .i64 129792]) ([768, 879, 880, 4352, 4447, 4448, 11903, 11904, 42191, 42192, 44032, 55203, 63744, 64255, 65281, 65376, 65377, 127744, 129791, 129792] : List Int).length rfl rfl rfl (by kernel_rfl) (fun g75 => ?_)
          have ho76 := own_lit (K := (Kd.int .i64)) (e := 2) (I := J51) (xs := ([768, 879, 880, 4352, 4447, 4448, 11903, 11904, 42191, 42192, 44032, 55203, 63744, 64255, 65281, 65376, 65377, 127744, 129791, 129792] : List Int)) (css := [[.int .i64 768], [.int .i64 879], [.int .i64 880], [.int .i64 4352], [.int .i64 4447], [.int .i64 4448], [.int .i64 11903], [.int .i64 11904], [.int .i64 42191], [.int .i64 42192], [.int .i64 44032], [.int .i64 55203], [.int .i64 63744], [.int .i64 64255], [.int .i64 65281], [.int .i64 65376], [.int .i64 65377], [.int .i64 127744], [.int .i64 129791], [.int .i64 129792]]) (cells := #[.int .i64 768, .int .i64 879, .int .i64 880, .int .i64 4352, .int .i64 4447, .int .i64 4448, .int .i64 11903, .int .i64 11904, .int .i64 42191, .int .i64 42192, .int .i64 44032, .int .i64 55203, .int .i64 63744, .int .i64 64255, .int .i64 65281, .int .i64 65376, .int .i64 65377, .int .i64 127744, .int .i64 129791, .int .i64 129792]) (b := g75) ⟨rfl, ⟨rfl, ⟨rfl, ⟨rfl, ⟨rfl, ⟨rfl, ⟨rfl, ⟨rfl, ⟨rfl, ⟨rfl, ⟨rfl, ⟨rfl, ⟨rfl, ⟨rfl, ⟨rfl, ⟨rfl, ⟨rfl, ⟨rfl, ⟨rfl, ⟨rfl, trivial⟩⟩⟩⟩⟩⟩⟩⟩⟩⟩⟩⟩⟩⟩⟩⟩⟩⟩⟩⟩ rfl
          refine at_seg [1] [2, 3, 4, 5] rfl [] [18, 19] (L2 := [(18, .slice (some ⟨g75, 0, none⟩ : Option Addr) ([768, 879, 880, 4352, 4447, 4448, 11903, 11904, 42191, 42192, 44032, 55203, 63744, 64255, 65281, 65376, 65377, 127744, 129791, 129792] : List Int).length (([768, 879, 880, 4352, 4447, 4448, 11903, 11904, 42191, 42192, 44032, 55203, 63744, 64255, 65281, 65376, 65377, 127744, 129791, 129792] : List Int).length)), (19, .pointer (some ⟨g44, 0, none⟩))]) (obs := []) (by kernel_rfl) ?_ ?_
          · intro w hs; exact trivial
          refine at_eff rfl rfl ?_
          obtain ⟨b5, H77, H⟩ := bind_some H
          refine eff_call rfl rfl ok29 rfl rfl (show Meets Try.prog 29 ([.pointer (some ⟨g44, 0, none⟩), .int .i64 20] : List Value).toArray _ [[(g44, .cells #[.slice A55 b3.2.b.length c56, .int .i64 b3.2.at_, .int .u64 b3.2.mix, .int .i64 b3.2.size] 83 (0, 0))]] _ from spec_l01Src_n.calls H77 hr57) (Mr := ([(g75, .cells #[.int .i64 768, .int .i64 879, .int .i64 880, .int .i64 4352, .int .i64 4447, .int .i64 4448, .int .i64 11903, .int .i64 11904, .int .i64 42191, .int .i64 42192, .int .i64 44032, .int .i64 55203, .int .i64 63744, .int .i64 64255, .int .i64 65281, .int .i64 65376, .int .i64 65377, .int .i64 127744, .int .i64 129791, .int .i64 129792] 2 (0, 0))] :: Fs)) ((perm_at (k := 1) rfl).trans ((List.Perm.refl _).cons _)) (fun v78 J79 M80 hq81 hJ82 => ?_)
          replace hle := hle.trans hJ82
          replace ho76 := ho76.mono hJ82
          replace hr57 := hr57.mono hJ82
          obtain ⟨A83, c84, rfl, rfl, hr85⟩ := hq81
          obtain ⟨h86, H⟩ := ite_some H
          obtain ⟨h87, H⟩ := ite_some H
          refine at_seg [3, 4, 5] [] rfl [(4, .int .i64 (rdA 0 ([768, 879, 880, 4352, 4447, 4448, 11903, 11904, 42191, 42192, 44032, 55203, 63744, 64255, 65281, 65376, 65377, 127744, 129791, 129792] : List Int) b5.1))] [2] (L2 := [(2, .int .i64 (rdA 0 ([768, 879, 880, 4352, 4447, 4448, 11903, 11904, 42191, 42192, 44032, 55203, 63744, 64255, 65281, 65376, 65377, 127744, 129791, 129792] : List Int) b5.1))]) (obs := [fun _ => (some ⟨g75, 0, none⟩ : Option Addr).isSome = true ∧ 0 ≤ b5.1 ∧ b5.1 < ((([768, 879, 880, 4352, 4447, 4448, 11903, 11904, 42191, 42192, 44032, 55203, 63744, 64255, 65281, 65376, 65377, 127744, 129791, 129792] : List Int).length : Nat) : Int), fun w => w.cell? (((some ⟨g75, 0, none⟩ : Option Addr).getD ad0).add (b5.1.toNat * 1)) = some (.int .i64 (rdA 0 ([768, 879, 880, 4352, 4447, 4448, 11903, 11904, 42191, 42192, 44032, 55203, 63744, 64255, 65281, 65376, 65377, 127744, 129791, 129792] : List Int) b5.1))]) (by kernel_rfl) ?_ ?_
          · intro w hs; exact ⟨⟨ho76.ne b5.1 h86 h87, h86, h87⟩, ho76.one 0 b5.1 h86 h87 hs (k := 1) rfl⟩
          refine at_end ?_
          refine at_thn ?_
          refine at_ret ?_
          refine at_in_ret ?_
          refine at_then_ret ?_
          obtain rfl := Option.some.inj H
          refine at_drop (k := 1) rfl rfl ?_
          refine at_eqM (M1 := ([(g44, .cells #[.slice A83 b5.2.b.length c84, .int .i64 b5.2.at_, .int .u64 b5.2.mix, .int .i64 b5.2.size] 83 (0, 0))] :: Fs)) (M2 := ([(g44, .cells #[.slice A83 b5.2.b.length c84, .int .i64 b5.2.at_, .int .u64 b5.2.mix, .int .i64 b5.2.size] 83 (0, 0))] :: Fs)) rfl rfl ?_
          refine at_done (vs := [.int .i64 (rdA 0 ([768, 879, 880, 4352, 4447, 4448, 11903, 11904, 42191, 42192, 44032, 55203, 63744, 64255, 65281, 65376, 65377, 127744, 129791, 129792] : List Int) b5.1)]) (obs := []) (.inl rfl) [.tmp 2] [] rfl (by kernel_rfl) (fun w hs => trivial) (fun w hs => ⟨_, _, [[(g44, .cells #[.slice A83 b5.2.b.length c84, .int .i64 b5.2.at_, .int .u64 b5.2.mix, .int .i64 b5.2.size] 83 (0, 0))]], rfl, ⟨A83, c84, rfl, rfl, hr85⟩, hle, hs⟩)
        · rw [if_neg h74] at H
          refine at_cond_f rfl (beq_eq_false_iff_ne.2 h74) ?_
          refine at_seq ?_
          refine at_reg [] [0, 4, 23] (L2 := [(0, .pointer (some ⟨g44, 0, none⟩)), (4, .int .i64 b3.1), (23, .bool (b3.1 == 4))]) (obs := []) (by kernel_rfl) ?_ ?_
          · intro w hs; exact trivial
          refine at_thn ?_
          by_cases h88 : b3.1 = 4
          · rw [if_pos h88] at H
            refine at_cond_t rfl (beq_iff_eq.2 h88) ?_
            refine at_seq ?_
            refine at_ops [0, 1, 2, 3, 4, 5] rfl ?_
            refine at_eff rfl rfl ?_
            refine eff_buildSlice (e := 2) (cells := #[.int .i64 233, .int .i64 960, .int .i64 8364, .int .i64 65533, .int .i64 1114111, .int .i64 65535, .int .i64 55295, .int .i64 57344]) ([233, 960, 8364, 65533, 1114111, 65535, 55295, 57344] : List Int).length rfl rfl rfl (by kernel_rfl) (fun g89 => ?_)
            have ho90 := own_lit (K := (Kd.int .i64)) (e := 2) (I := J51) (xs := ([233, 960, 8364, 65533, 1114111, 65535, 55295, 57344] : List Int)) (css := [[.int .i64 233], [.int .i64 960], [.int .i64 8364], [.int .i64 65533], [.int .i64 1114111], [.int .i64 65535], [.int .i64 55295], [.int .i64 57344]]) (cells := #[.int .i64 233, .int .i64 960, .int .i64 8364, .int .i64 65533, .int .i64 1114111, .int .i64 65535, .int .i64 55295, .int .i64 57344]) (b := g89) ⟨rfl, ⟨rfl, ⟨rfl, ⟨rfl, ⟨rfl, ⟨rfl, ⟨rfl, ⟨rfl, trivial⟩⟩⟩⟩⟩⟩⟩⟩ rfl
            refine at_seg [1] [2, 3, 4, 5] rfl [] [25, 26] (L2 := [(25, .slice (some ⟨g89, 0, none⟩ : Option Addr) ([233, 960, 8364, 65533, 1114111, 65535, 55295, 57344] : List Int).length (([233, 960, 8364, 65533, 1114111, 65535, 55295, 57344] : List Int).length)), (26, .pointer (some ⟨g44, 0, none⟩))]) (obs := []) (by kernel_rfl) ?_ ?_
            · intro w hs; exact trivial
            refine at_eff rfl rfl ?_
            obtain ⟨b6, H91, H⟩ := bind_some H
            refine eff_call rfl rfl ok29 rfl rfl (show Meets Try.prog 29 ([.pointer (some ⟨g44, 0, none⟩), .int .i64 8] : List Value).toArray _ [[(g44, .cells #[.slice A55 b3.2.b.length c56, .int .i64 b3.2.at_, .int .u64 b3.2.mix, .int .i64 b3.2.size] 83 (0, 0))]] _ from spec_l01Src_n.calls H91 hr57) (Mr := ([(g89, .cells #[.int .i64 233, .int .i64 960, .int .i64 8364, .int .i64 65533, .int .i64 1114111, .int .i64 65535, .int .i64 55295, .int .i64 57344] 2 (0, 0))] :: Fs)) ((perm_at (k := 1) rfl).trans ((List.Perm.refl _).cons _)) (fun v92 J93 M94 hq95 hJ96 => ?_)
            replace hle := hle.trans hJ96
            replace ho90 := ho90.mono hJ96
            replace hr57 := hr57.mono hJ96
            obtain ⟨A97, c98, rfl, rfl, hr99⟩ := hq95
            obtain ⟨h100, H⟩ := ite_some H
            obtain ⟨h101, H⟩ := ite_some H
            refine at_seg [3, 4, 5] [] rfl [(4, .int .i64 (rdA 0 ([233, 960, 8364, 65533, 1114111, 65535, 55295, 57344] : List Int) b6.1))] [2] (L2 := [(2, .int .i64 (rdA 0 ([233, 960, 8364, 65533, 1114111, 65535, 55295, 57344] : List Int) b6.1))]) (obs := [fun _ => (some ⟨g89, 0, none⟩ : Option Addr).isSome = true ∧ 0 ≤ b6.1 ∧ b6.1 < ((([233, 960, 8364, 65533, 1114111, 65535, 55295, 57344] : List Int).length : Nat) : Int), fun w => w.cell? (((some ⟨g89, 0, none⟩ : Option Addr).getD ad0).add (b6.1.toNat * 1)) = some (.int .i64 (rdA 0 ([233, 960, 8364, 65533, 1114111, 65535, 55295, 57344] : List Int) b6.1))]) (by kernel_rfl) ?_ ?_
            · intro w hs; exact ⟨⟨ho90.ne b6.1 h100 h101, h100, h101⟩, ho90.one 0 b6.1 h100 h101 hs (k := 1) rfl⟩
            refine at_end ?_
            refine at_thn ?_
            refine at_ret ?_
            refine at_in_ret ?_
            refine at_then_ret ?_
            obtain rfl := Option.some.inj H
            refine at_drop (k := 1) rfl rfl ?_
            refine at_eqM (M1 := ([(g44, .cells #[.slice A97 b6.2.b.length c98, .int .i64 b6.2.at_, .int .u64 b6.2.mix, .int .i64 b6.2.size] 83 (0, 0))] :: Fs)) (M2 := ([(g44, .cells #[.slice A97 b6.2.b.length c98, .int .i64 b6.2.at_, .int .u64 b6.2.mix, .int .i64 b6.2.size] 83 (0, 0))] :: Fs)) rfl rfl ?_
            refine at_done (vs := [.int .i64 (rdA 0 ([233, 960, 8364, 65533, 1114111, 65535, 55295, 57344] : List Int) b6.1)]) (obs := []) (.inl rfl) [.tmp 2] [] rfl (by kernel_rfl) (fun w hs => trivial) (fun w hs => ⟨_, _, [[(g44, .cells #[.slice A97 b6.2.b.length c98, .int .i64 b6.2.at_, .int .u64 b6.2.mix, .int .i64 b6.2.size] 83 (0, 0))]], rfl, ⟨A97, c98, rfl, rfl, hr99⟩, hle, hs⟩)
          · rw [if_neg h88] at H
            refine at_cond_f rfl (beq_eq_false_iff_ne.2 h88) ?_
            refine at_seq ?_
            refine at_reg [] [0, 4, 30] (L2 := [(0, .pointer (some ⟨g44, 0, none⟩)), (4, .int .i64 b3.1), (30, .bool (b3.1 == 5))]) (obs := []) (by kernel_rfl) ?_ ?_
            · intro w hs; exact trivial
            refine at_thn ?_
            by_cases h102 : b3.1 = 5
            · rw [if_pos h102] at H
              refine at_cond_t rfl (beq_iff_eq.2 h102) ?_
              refine at_seq ?_
              refine at_ops [0, 1, 2, 3, 4, 5] rfl ?_
              refine at_eff rfl rfl ?_
              refine eff_buildSlice (e := 2) (cells := #[.int .i64 46, .int .i64 44, .int .i64 45, .int .i64 40, .int .i64 36]) ([46, 44, 45, 40, 36] : List Int).length rfl rfl rfl (by kernel_rfl) (fun g103 => ?_)
              have ho104 := own_lit (K := (Kd.int .i64)) (e := 2) (I := J51) (xs := ([46, 44, 45, 40, 36] : List Int)) (css := [[.int .i64 46], [.int .i64 44], [.int .i64 45], [.int .i64 40], [.int .i64 36]]) (cells := #[.int .i64 46, .int .i64 44, .int .i64 45, .int .i64 40, .int .i64 36]) (b := g103) ⟨rfl, ⟨rfl, ⟨rfl, ⟨rfl, ⟨rfl, trivial⟩⟩⟩⟩⟩ rfl
              refine at_seg [1] [2, 3, 4, 5] rfl [] [32, 33] (L2 := [(32, .slice (some ⟨g103, 0, none⟩ : Option Addr) ([46, 44, 45, 40, 36] : List Int).length (([46, 44, 45, 40, 36] : List Int).length)), (33, .pointer (some ⟨g44, 0, none⟩))]) (obs := []) (by kernel_rfl) ?_ ?_
              · intro w hs; exact trivial
              refine at_eff rfl rfl ?_
              obtain ⟨b7, H105, H⟩ := bind_some H
              refine eff_call rfl rfl ok29 rfl rfl (show Meets Try.prog 29 ([.pointer (some ⟨g44, 0, none⟩), .int .i64 5] : List Value).toArray _ [[(g44, .cells #[.slice A55 b3.2.b.length c56, .int .i64 b3.2.at_, .int .u64 b3.2.mix, .int .i64 b3.2.size] 83 (0, 0))]] _ from spec_l01Src_n.calls H105 hr57) (Mr := ([(g103, .cells #[.int .i64 46, .int .i64 44, .int .i64 45, .int .i64 40, .int .i64 36] 2 (0, 0))] :: Fs)) ((perm_at (k := 1) rfl).trans ((List.Perm.refl _).cons _)) (fun v106 J107 M108 hq109 hJ110 => ?_)
              replace hle := hle.trans hJ110
              replace ho104 := ho104.mono hJ110
              replace hr57 := hr57.mono hJ110
              obtain ⟨A111, c112, rfl, rfl, hr113⟩ := hq109
              obtain ⟨h114, H⟩ := ite_some H
              obtain ⟨h115, H⟩ := ite_some H
              refine at_seg [3, 4, 5] [] rfl [(4, .int .i64 (rdA 0 ([46, 44, 45, 40, 36] : List Int) b7.1))] [2] (L2 := [(2, .int .i64 (rdA 0 ([46, 44, 45, 40, 36] : List Int) b7.1))]) (obs := [fun _ => (some ⟨g103, 0, none⟩ : Option Addr).isSome = true ∧ 0 ≤ b7.1 ∧ b7.1 < ((([46, 44, 45, 40, 36] : List Int).length : Nat) : Int), fun w => w.cell? (((some ⟨g103, 0, none⟩ : Option Addr).getD ad0).add (b7.1.toNat * 1)) = some (.int .i64 (rdA 0 ([46, 44, 45, 40, 36] : List Int) b7.1))]) (by kernel_rfl) ?_ ?_
              · intro w hs; exact ⟨⟨ho104.ne b7.1 h114 h115, h114, h115⟩, ho104.one 0 b7.1 h114 h115 hs (k := 1) rfl⟩
              refine at_end ?_
              refine at_thn ?_
              refine at_ret ?_
              refine at_in_ret ?_
              refine at_then_ret ?_
              obtain rfl := Option.some.inj H
              refine at_drop (k := 1) rfl rfl ?_
              refine at_eqM (M1 := ([(g44, .cells #[.slice A111 b7.2.b.length c112, .int .i64 b7.2.at_, .int .u64 b7.2.mix, .int .i64 b7.2.size] 83 (0, 0))] :: Fs)) (M2 := ([(g44, .cells #[.slice A111 b7.2.b.length c112, .int .i64 b7.2.at_, .int .u64 b7.2.mix, .int .i64 b7.2.size] 83 (0, 0))] :: Fs)) rfl rfl ?_
              refine at_done (vs := [.int .i64 (rdA 0 ([46, 44, 45, 40, 36] : List Int) b7.1)]) (obs := []) (.inl rfl) [.tmp 2] [] rfl (by kernel_rfl) (fun w hs => trivial) (fun w hs => ⟨_, _, [[(g44, .cells #[.slice A111 b7.2.b.length c112, .int .i64 b7.2.at_, .int .u64 b7.2.mix, .int .i64 b7.2.size] 83 (0, 0))]], rfl, ⟨A111, c112, rfl, rfl, hr113⟩, hle, hs⟩)
            · rw [if_neg h102] at H
              refine at_cond_f rfl (beq_eq_false_iff_ne.2 h102) ?_
              refine at_seq ?_
              refine at_reg [] [0, 37] (L2 := [(0, .pointer (some ⟨g44, 0, none⟩)), (37, .bool (b3.1 == 6))]) (obs := []) (by kernel_rfl) ?_ ?_
              · intro w hs; exact trivial
              refine at_thn ?_
              by_cases h116 : b3.1 = 6
              · rw [if_pos h116] at H
                refine at_cond_t rfl (beq_iff_eq.2 h116) ?_
                refine at_seq ?_
                refine at_ops [0, 1, 2, 3] rfl ?_
                refine at_seg [0] [1, 2, 3] rfl [] [39] (L2 := [(39, .pointer (some ⟨g44, 0, none⟩))]) (obs := []) (by kernel_rfl) ?_ ?_
                · intro w hs; exact trivial
                refine at_eff rfl rfl ?_
                obtain ⟨b8, H117, H⟩ := bind_some H
                refine eff_call rfl rfl ok29 rfl rfl (show Meets Try.prog 29 ([.pointer (some ⟨g44, 0, none⟩), .int .i64 10] : List Value).toArray _ [[(g44, .cells #[.slice A55 b3.2.b.length c56, .int .i64 b3.2.at_, .int .u64 b3.2.mix, .int .i64 b3.2.size] 83 (0, 0))]] _ from spec_l01Src_n.calls H117 hr57) (Mr := (Fs)) (List.Perm.refl _) (fun v118 J119 M120 hq121 hJ122 => ?_)
                replace hle := hle.trans hJ122
                replace hr57 := hr57.mono hJ122
                obtain ⟨A123, c124, rfl, rfl, hr125⟩ := hq121
                refine at_seg [2, 3] [] rfl [] [2] (L2 := [(2, .int .i64 (IntKind.i64.wrap (48 + b8.1)))]) (obs := []) (by kernel_rfl) ?_ ?_
                · intro w hs; exact trivial
                refine at_end ?_
                refine at_thn ?_
                refine at_ret ?_
                refine at_in_ret ?_
                refine at_then_ret ?_
                obtain rfl := Option.some.inj H
                refine at_done (vs := [.int .i64 (IntKind.i64.wrap (48 + b8.1))]) (obs := []) (.inl rfl) [.tmp 2] [] rfl (by kernel_rfl) (fun w hs => trivial) (fun w hs => ⟨_, _, [[(g44, .cells #[.slice A123 b8.2.b.length c124, .int .i64 b8.2.at_, .int .u64 b8.2.mix, .int .i64 b8.2.size] 83 (0, 0))]], rfl, ⟨A123, c124, rfl, rfl, hr125⟩, hle, hs⟩)
              · rw [if_neg h116] at H
                refine at_cond_f rfl (beq_eq_false_iff_ne.2 h116) ?_
                refine at_skip ?_
                refine at_in_norm ?_
                refine at_thn ?_
                refine at_seq ?_
                refine at_ops [0, 1, 2, 3] rfl ?_
                refine at_seg [0] [1, 2, 3] rfl [] [42] (L2 := [(42, .pointer (some ⟨g44, 0, none⟩))]) (obs := []) (by kernel_rfl) ?_ ?_
                · intro w hs; exact trivial
                refine at_eff rfl rfl ?_
                obtain ⟨b9, H126, H⟩ := bind_some H
                refine eff_call rfl rfl ok29 rfl rfl (show Meets Try.prog 29 ([.pointer (some ⟨g44, 0, none⟩), .int .i64 6] : List Value).toArray _ [[(g44, .cells #[.slice A55 b3.2.b.length c56, .int .i64 b3.2.at_, .int .u64 b3.2.mix, .int .i64 b3.2.size] 83 (0, 0))]] _ from spec_l01Src_n.calls H126 hr57) (Mr := (Fs)) (List.Perm.refl _) (fun v127 J128 M129 hq130 hJ131 => ?_)
                replace hle := hle.trans hJ131
                replace hr57 := hr57.mono hJ131
                obtain ⟨A132, c133, rfl, rfl, hr134⟩ := hq130
                refine at_seg [2, 3] [] rfl [] [2] (L2 := [(2, .int .i64 (IntKind.i64.wrap (97 + b9.1)))]) (obs := []) (by kernel_rfl) ?_ ?_
                · intro w hs; exact trivial
                refine at_end ?_
                refine at_thn ?_
                refine at_ret ?_
                obtain rfl := Option.some.inj H
                refine at_done (vs := [.int .i64 (IntKind.i64.wrap (97 + b9.1))]) (obs := []) (.inl rfl) [.tmp 2] [] rfl (by kernel_rfl) (fun w hs => trivial) (fun w hs => ⟨_, _, [[(g44, .cells #[.slice A132 b9.2.b.length c133, .int .i64 b9.2.at_, .int .u64 b9.2.mix, .int .i64 b9.2.size] 83 (0, 0))]], rfl, ⟨A132, c133, rfl, rfl, hr134⟩, hle, hs⟩)
end Go.Proofs.Ytnhnipdanpcbeaa
