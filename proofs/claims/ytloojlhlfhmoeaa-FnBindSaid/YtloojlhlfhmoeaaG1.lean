import Derived.Test.YtloojlhlfhmoeaaG0
namespace Go.Proofs.Ytloojlhlfhmoeaa
open Go Eng
set_option linter.unusedVariables false
set_option linter.unusedSimpArgs false
/-! ### loop.example/g00146/spec.l01Source: function 11 -/
mutual
def spec_l01Source_l0 : Nat → Int → Int → (List Int) → Option T_spec_l01Src
  | 0, _, _, _ => none
  | k + 1, x121, x122, p11 => if x121 < (p11.length : Int) then (if x121 < 64 then (if 0 ≤ x121 then (spec_l01Source_l0 k (IntKind.i64.wrap (x121 + 1)) (IntKind.u64.wrap ((bitsV .xor .u64 x122 (IntKind.u64.wrap (rdA 0 p11 x121))) * 1099511628211)) p11) else none) else (spec_l01Source_j0 k x122 p11)) else (spec_l01Source_j0 k x122 p11)
def spec_l01Source_j0 : Nat → Int → (List Int) → Option T_spec_l01Src
  | 0, _, _ => none
  | k + 1, x117, p11 => if (IntKind.i64.wrap ((p11.length : Int).tdiv 20)) > 12 then (some (⟨p11, 0, x117, 12⟩ : T_spec_l01Src)) else (some (⟨p11, 0, x117, IntKind.i64.wrap ((p11.length : Int).tdiv 20)⟩ : T_spec_l01Src))
end
def spec_l01Source (k : Nat) (p11 : List Int) : Option T_spec_l01Src := spec_l01Source_l0 k 0 88172645463325252 p11
set_option maxHeartbeats 4000000 in
set_option maxRecDepth 100000 in
theorem spec_l01Source.calls {k : Nat} {p11 : List Int} {r : T_spec_l01Src} {I0 : Imm} {A12 : Option Addr} {c13 : Nat} (H : spec_l01Source k p11 = some r) (hr14 : Rd (Kd.int .u8) I0 A12 c13 p11) :
    Meets Try.prog 11 ([.slice A12 p11.length c13] : List Value).toArray I0 [] (fun v J M => ∃ (g_1 : Nat) (A_2 : Option Addr) (c_3 : Nat), v = .pointer (some ⟨g_1, 0, none⟩) ∧ M = [[(g_1, .cells #[.slice A_2 r.b.length c_3, .int .i64 r.at_, .int .u64 r.mix, .int .i64 r.size] 53 (0, 0))]] ∧ Rd (Kd.int .u8) J A_2 c_3 r.b) := by
  have hle := ImmLe.refl I0
  unfold spec_l01Source at H
  refine fn_intro (fn := Try.f11) 47 Try.func11 rfl rfl rfl (fun E Fs => ?_)
  refine at_seq ?_
  refine at_reg [] [0] (L2 := [(0, .slice A12 p11.length c13)]) (obs := []) (by kernel_rfl) ?_ ?_
  · intro w hs; exact trivial
  refine at_thn ?_
  refine at_seq ?_
  refine at_ops [0, 1, 2, 3] rfl ?_
  refine at_seg [0, 1] [2, 3] rfl [] [0, 6] (L2 := [(0, .slice A12 p11.length c13), (6, .agg #[.slice A12 p11.length c13, .int .i64 0, .int .u64 88172645463325252, .int .i64 0])]) (obs := []) (by kernel_rfl) ?_ ?_
  · intro w hs; exact trivial
  refine at_eff rfl rfl ?_
  refine eff_box rfl rfl rfl #[.slice A12 p11.length c13, .int .i64 0, .int .u64 88172645463325252, .int .i64 0] rfl (fun g15 => ?_)
  refine at_seg [3] [] rfl [] [0, 3] (L2 := [(0, .slice A12 p11.length c13), (3, .pointer (some ⟨g15, 0, none⟩))]) (obs := []) (by kernel_rfl) ?_ ?_
  · intro w hs; exact trivial
  refine at_end ?_
  refine at_thn ?_
  refine at_join (fun L I Ms => ∃ (k118 : Nat), ∃ (x117 : Int), L = [(0, .slice A12 p11.length c13), (3, .pointer (some ⟨g15, 0, none⟩))] ∧ Ms = ([(g15, .cells #[.slice A12 p11.length c13, .int .i64 0, .int .u64 x117, .int .i64 0] 53 (0, 0))] :: Fs) ∧ spec_l01Source_j0 k118 x117 p11 = some r ∧ ImmLe I0 I ∧ k118 ≤ k ∧ Rd (Kd.int .u8) I A12 c13 p11) ?_ ?_
  · clear H hle hr14
    intro L I Ms h_; obtain ⟨k118, x117, hL_, hM_, H, hle, hk119, hr14⟩ := h_; rw [hL_, hM_]; clear hL_ hM_ L Ms
    rcases k118 with _ | k118
    · exact (no_none H).elim
    rw [spec_l01Source_j0] at H
    refine at_seq ?_
    refine at_ops [0, 1, 2, 3, 4, 5, 6] rfl ?_
    refine at_seg [0, 1, 2, 3, 4, 5] [6] rfl [] [3, 35, 37] (L2 := [(3, .pointer (some ⟨g15, 0, none⟩)), (35, .int .i64 (IntKind.i64.wrap ((p11.length : Int).tdiv 20))), (37, .pointer (some ⟨g15, 3, none⟩))]) (obs := [fun _ => ¬ (20 : Int) = 0]) (by kernel_rfl) ?_ ?_
    · intro w hs; exact (by decide : ¬ (20 : Int) = 0)
    refine at_eff rfl rfl ?_
    refine eff_store 0 rfl rfl rfl rfl rfl rfl (.inl (Nat.le_refl _)) rfl (Nat.le_of_ble_eq_true (by kernel_rfl)) rfl ?_
    refine at_end ?_
    refine at_thn ?_
    refine at_seq ?_
    refine at_seq ?_
    refine at_reg [(3, .int .i64 (IntKind.i64.wrap ((p11.length : Int).tdiv 20)))] [3, 42] (L2 := [(3, .pointer (some ⟨g15, 0, none⟩)), (42, .bool (decide ((IntKind.i64.wrap ((p11.length : Int).tdiv 20)) > 12)))]) (obs := [fun w => w.cell? ⟨g15, 3, none⟩ = some (.int .i64 (IntKind.i64.wrap ((p11.length : Int).tdiv 20)))]) (by kernel_rfl) ?_ ?_
    · intro w hs; exact hs.var (k := 0) rfl 3 rfl
    refine at_thn ?_
    by_cases h120 : (IntKind.i64.wrap ((p11.length : Int).tdiv 20)) > 12
    · rw [if_pos h120] at H
      refine at_cond_t rfl (decide_eq_true h120) ?_
      refine at_ops [0, 1, 2, 3] rfl ?_
      refine at_seg [0, 1, 2] [3] rfl [] [3, 45] (L2 := [(3, .pointer (some ⟨g15, 0, none⟩)), (45, .pointer (some ⟨g15, 3, none⟩))]) (obs := []) (by kernel_rfl) ?_ ?_
      · intro w hs; exact trivial
      refine at_eff rfl rfl ?_
      refine eff_store 0 rfl rfl rfl rfl rfl rfl (.inl (Nat.le_refl _)) rfl (Nat.le_of_ble_eq_true (by kernel_rfl)) rfl ?_
      refine at_end ?_
      refine at_thn ?_
      refine at_seq ?_
      refine at_reg [] [2] (L2 := [(2, .pointer (some ⟨g15, 0, none⟩))]) (obs := []) (by kernel_rfl) ?_ ?_
      · intro w hs; exact trivial
      refine at_thn ?_
      refine at_ret ?_
      obtain rfl := Option.some.inj H
      refine at_done (vs := [.pointer (some ⟨g15, 0, none⟩)]) (obs := []) (.inl rfl) [.tmp 2] [] rfl (by kernel_rfl) (fun w hs => trivial) (fun w hs => ⟨_, _, [[(g15, .cells #[.slice A12 p11.length c13, .int .i64 0, .int .u64 x117, .int .i64 12] 53 (0, 0))]], rfl, ⟨g15, A12, c13, rfl, rfl, hr14⟩, hle, hs⟩)
    · rw [if_neg h120] at H
      refine at_cond_f rfl (decide_eq_false h120) ?_
      refine at_skip ?_
      refine at_thn ?_
      refine at_seq ?_
      refine at_reg [] [2] (L2 := [(2, .pointer (some ⟨g15, 0, none⟩))]) (obs := []) (by kernel_rfl) ?_ ?_
      · intro w hs; exact trivial
      refine at_thn ?_
      refine at_ret ?_
      obtain rfl := Option.some.inj H
      refine at_done (vs := [.pointer (some ⟨g15, 0, none⟩)]) (obs := []) (.inl rfl) [.tmp 2] [] rfl (by kernel_rfl) (fun w hs => trivial) (fun w hs => ⟨_, _, [[(g15, .cells #[.slice A12 p11.length c13, .int .i64 0, .int .u64 x117, .int .i64 (IntKind.i64.wrap ((p11.length : Int).tdiv 20))] 53 (0, 0))]], rfl, ⟨g15, A12, c13, rfl, rfl, hr14⟩, hle, hs⟩)
  · intro Jn16
    refine at_seq ?_
    refine at_reg [] [0, 3, 4] (L2 := [(0, .slice A12 p11.length c13), (3, .pointer (some ⟨g15, 0, none⟩)), (4, .int .i64 0)]) (obs := []) (by kernel_rfl) ?_ ?_
    · intro w hs; exact trivial
    refine at_thn ?_
    refine at_block ?_
    refine at_keep [0, 3, 4] (L2 := [(0, .slice A12 p11.length c13), (3, .pointer (some ⟨g15, 0, none⟩)), (4, .int .i64 0)]) rfl ?_
    refine at_loop (fun k123 L I Ms => ∃ (x121 : Int) (x122 : Int), L = [(0, .slice A12 p11.length c13), (3, .pointer (some ⟨g15, 0, none⟩)), (4, .int .i64 x121)] ∧ Ms = ([(g15, .cells #[.slice A12 p11.length c13, .int .i64 0, .int .u64 x122, .int .i64 0] 53 (0, 0))] :: Fs) ∧ spec_l01Source_l0 k123 x121 x122 p11 = some r ∧ ImmLe I0 I ∧ k123 ≤ k ∧ Rd (Kd.int .u8) I A12 c13 p11) ?_ ?_ k ⟨0, 88172645463325252, rfl, rfl, H, hle, Nat.le_refl _, hr14⟩
    · rintro L I Ms ⟨_, _, rfl, rfl, H, _⟩; exact no_none H
    · clear H hle hr14
      intro k123 ih124 L I Ms h_; obtain ⟨x121, x122, hL_, hM_, H, hle, hk125, hr14⟩ := h_; rw [hL_, hM_]; clear hL_ hM_ L Ms
      rw [spec_l01Source_l0] at H
      refine at_seq ?_
      refine at_seq ?_
      by_cases h126 : x121 < (p11.length : Int)
      · rw [if_pos h126] at H
        refine at_reg [(4, .bool true)] [0, 3, 4, 15] (L2 := [(0, .slice A12 p11.length c13), (3, .pointer (some ⟨g15, 0, none⟩)), (4, .int .i64 x121), (15, .bool (decide (x121 < 64)))]) (obs := [fun _ => (.bool (decide (x121 < (p11.length : Int))) : Value) = .bool true]) (by kernel_rfl) ?_ ?_
        · intro w hs; exact congrArg Value.bool (decide_eq_true h126)
        refine at_thn ?_
        by_cases h127 : x121 < 64
        · rw [if_pos h127] at H
          refine at_cond_t rfl (decide_eq_true h127) ?_
          refine at_skip ?_
          refine at_thn ?_
          refine at_seq ?_
          refine at_block ?_
          obtain ⟨h128, H⟩ := ite_some H
          refine at_x hmo (fun w => w.cell? ⟨g15, 2, none⟩ = some (.int .u64 x122) ∧ w.cell? ((A12.getD ad0).add (x121.toNat * 1)) = some (.int .u8 (rdA 0 p11 x121))) [14] ?_
          refine at_xseg [0, 1, 2, 3, 4, 5, 6, 7, 8, 9, 10, 11, 12, 13] 1 (#[true, true, true, true, true, true, true, true, true, true, true, true, true, true, false]) rfl (by kernel_rfl) [(4, .int .u64 x122), (8, .int .u8 (rdA 0 p11 x121))] [0, 3, 4, 29, 31] (L2 := [(0, .slice A12 p11.length c13), (3, .pointer (some ⟨g15, 0, none⟩)), (4, .int .i64 x121), (29, .int .u64 (IntKind.u64.wrap ((bitsV .xor .u64 x122 (IntKind.u64.wrap (rdA 0 p11 x121))) * 1099511628211))), (31, .pointer (some ⟨g15, 2, none⟩))]) (obs := [fun w => w.cell? ⟨g15, 2, none⟩ = some (.int .u64 x122), fun _ => A12.isSome = true ∧ 0 ≤ x121 ∧ x121 < ((p11.length : Nat) : Int), fun w => w.cell? ((A12.getD ad0).add (x121.toNat * 1)) = some (.int .u8 (rdA 0 p11 x121))]) (by kernel_rfl) (by kernel_rfl) (by kernel_rfl) (.inr fun w hs => ⟨hs.var (k := 0) rfl 2 rfl, hr14.one 0 x121 h128 h126 hs⟩) (fun w hS => ⟨hS.1, ⟨hr14.ne x121 h128 h126, h128, h126⟩, hS.2⟩) (fun w hs => ⟨hs.var (k := 0) rfl 2 rfl, ⟨hr14.ne x121 h128 h126, h128, h126⟩, hr14.one 0 x121 h128 h126 hs⟩) ?_
          refine at_x1 0 14 (#[true, true, true, true, true, true, true, true, true, true, true, true, true, true, true]) rfl (by kernel_rfl) (by kernel_rfl) rfl rfl ?_
          refine eff_store 0 rfl rfl rfl rfl rfl rfl (.inl (Nat.le_refl _)) rfl (Nat.le_of_ble_eq_true (by kernel_rfl)) rfl ?_
          refine at_xX (by kernel_rfl) ?_
          refine at_xend (by kernel_rfl) ?_
          refine at_in_norm ?_
          refine at_thn ?_
          refine at_reg [] [0, 3, 4] (L2 := [(0, .slice A12 p11.length c13), (3, .pointer (some ⟨g15, 0, none⟩)), (4, .int .i64 (IntKind.i64.wrap (x121 + 1)))]) (obs := []) (by kernel_rfl) ?_ ?_
          · intro w hs; exact trivial
          refine at_thn ?_
          refine at_keep [0, 3, 4] (L2 := [(0, .slice A12 p11.length c13), (3, .pointer (some ⟨g15, 0, none⟩)), (4, .int .i64 (IntKind.i64.wrap (x121 + 1)))]) rfl ?_
          exact ih124 _ (by omega) _ _ _ ⟨IntKind.i64.wrap (x121 + 1), IntKind.u64.wrap ((bitsV .xor .u64 x122 (IntKind.u64.wrap (rdA 0 p11 x121))) * 1099511628211), rfl, rfl, H, hle, by omega, hr14⟩
        · rw [if_neg h127] at H
          refine at_cond_f rfl (decide_eq_false h127) ?_
          refine at_exit ?_
          refine at_then_exit ?_
          refine at_then_exit ?_
          refine at_in_hit ?_
          refine at_thn ?_
          refine at_keep [0, 3] (L2 := [(0, .slice A12 p11.length c13), (3, .pointer (some ⟨g15, 0, none⟩))]) rfl ?_
          exact Jn16 _ _ _ ⟨_, x122, rfl, rfl, H, hle, by omega, hr14⟩
      · rw [if_neg h126] at H
        refine at_reg [(4, .bool false)] [0, 3, 4, 15] (L2 := [(0, .slice A12 p11.length c13), (3, .pointer (some ⟨g15, 0, none⟩)), (4, .int .i64 x121), (15, .bool false)]) (obs := [fun _ => (.bool (decide (x121 < (p11.length : Int))) : Value) = .bool false]) (by kernel_rfl) ?_ ?_
        · intro w hs; exact congrArg Value.bool (decide_eq_false h126)
        refine at_thn ?_
        refine at_cond_f rfl (rfl) ?_
        refine at_exit ?_
        refine at_then_exit ?_
        refine at_then_exit ?_
        refine at_in_hit ?_
        refine at_thn ?_
        refine at_keep [0, 3] (L2 := [(0, .slice A12 p11.length c13), (3, .pointer (some ⟨g15, 0, none⟩))]) rfl ?_
        exact Jn16 _ _ _ ⟨_, x122, rfl, rfl, H, hle, by omega, hr14⟩

/-! ### (*loop.example/g00146/spec.l01Src).n: function 26 -/
def spec_l01Src_n_j0 : Nat → Int → Int → T_spec_l01Src → Int → Option (Int × T_spec_l01Src)
  | 0, _, _, _, _ => none
  | k + 1, x136, x137, p29, p33 => if ¬ (IntKind.u64.wrap p33) = 0 then (some (IntKind.i64.wrap ((IntKind.u64.wrap (x136 + ((bitsV .xor .u64 (bitsV .xor .u64 (bitsV .xor .u64 p29.mix (IntKind.u64.wrap (p29.mix * 2 ^ 13))) ((bitsV .xor .u64 p29.mix (IntKind.u64.wrap (p29.mix * 2 ^ 13))).fdiv (2 ^ 7))) (IntKind.u64.wrap ((bitsV .xor .u64 (bitsV .xor .u64 p29.mix (IntKind.u64.wrap (p29.mix * 2 ^ 13))) ((bitsV .xor .u64 p29.mix (IntKind.u64.wrap (p29.mix * 2 ^ 13))).fdiv (2 ^ 7))) * 2 ^ 17))).fdiv (2 ^ 20)))).tmod (IntKind.u64.wrap p33)), (⟨p29.b, x137, bitsV .xor .u64 (bitsV .xor .u64 (bitsV .xor .u64 p29.mix (IntKind.u64.wrap (p29.mix * 2 ^ 13))) ((bitsV .xor .u64 p29.mix (IntKind.u64.wrap (p29.mix * 2 ^ 13))).fdiv (2 ^ 7))) (IntKind.u64.wrap ((bitsV .xor .u64 (bitsV .xor .u64 p29.mix (IntKind.u64.wrap (p29.mix * 2 ^ 13))) ((bitsV .xor .u64 p29.mix (IntKind.u64.wrap (p29.mix * 2 ^ 13))).fdiv (2 ^ 7))) * 2 ^ 17)), p29.size⟩ : T_spec_l01Src))) else none
def spec_l01Src_n (k : Nat) (p29 : T_spec_l01Src) (p33 : Int) : Option (Int × T_spec_l01Src) := if p33 ≤ 1 then (some (0, p29)) else (if p29.at_ < (p29.b.length : Int) then (if 0 ≤ p29.at_ then (spec_l01Src_n_j0 k (IntKind.u64.wrap (rdA 0 p29.b p29.at_)) (IntKind.i64.wrap (p29.at_ + 1)) p29 p33) else none) else (spec_l01Src_n_j0 k 0 p29.at_ p29 p33))
set_option maxHeartbeats 4000000 in
set_option maxRecDepth 100000 in
theorem spec_l01Src_n.calls {k : Nat} {p29 : T_spec_l01Src} {p33 : Int} {r : Int × T_spec_l01Src} {I0 : Imm} {g28 : Nat} {A30 : Option Addr} {c31 : Nat} (H : spec_l01Src_n k p29 p33 = some r) (hr32 : Rd (Kd.int .u8) I0 A30 c31 p29.b) :
    Meets Try.prog 26 ([.pointer (some ⟨g28, 0, none⟩), .int .i64 p33] : List Value).toArray I0 [[(g28, .cells #[.slice A30 p29.b.length c31, .int .i64 p29.at_, .int .u64 p29.mix, .int .i64 p29.size] 53 (0, 0))]] (fun v J M => ∃ (A_1 : Option Addr) (c_2 : Nat), v = .int .i64 r.1 ∧ M = [[(g28, .cells #[.slice A_1 r.2.b.length c_2, .int .i64 r.2.at_, .int .u64 r.2.mix, .int .i64 r.2.size] 53 (0, 0))]] ∧ Rd (Kd.int .u8) J A_1 c_2 r.2.b) := by
  have hle := ImmLe.refl I0
  unfold spec_l01Src_n at H
  refine fn_intro (fn := Try.f26) 87 Try.func26 rfl rfl rfl (fun E Fs => ?_)
  refine at_seq ?_
  refine at_reg [] [0, 1] (L2 := [(0, .pointer (some ⟨g28, 0, none⟩)), (1, .int .i64 p33)]) (obs := []) (by kernel_rfl) ?_ ?_
  · intro w hs; exact trivial
  refine at_thn ?_
  refine at_seq ?_
  refine at_seq ?_
  refine at_reg [] [0, 1, 7] (L2 := [(0, .pointer (some ⟨g28, 0, none⟩)), (1, .int .i64 p33), (7, .bool (decide (p33 ≤ 1)))]) (obs := []) (by kernel_rfl) ?_ ?_
  · intro w hs; exact trivial
  refine at_thn ?_
  by_cases h34 : p33 ≤ 1
  · rw [if_pos h34] at H
    refine at_cond_t rfl (decide_eq_true h34) ?_
    refine at_seq ?_
    refine at_reg [] [4] (L2 := [(4, .int .i64 0)]) (obs := []) (by kernel_rfl) ?_ ?_
    · intro w hs; exact trivial
    refine at_thn ?_
    refine at_ret ?_
    refine at_then_ret ?_
    obtain rfl := Option.some.inj H
    refine at_done (vs := [.int .i64 0]) (obs := []) (.inl rfl) [.tmp 4] [] rfl (by kernel_rfl) (fun w hs => trivial) (fun w hs => ⟨_, _, [[(g28, .cells #[.slice A30 p29.b.length c31, .int .i64 p29.at_, .int .u64 p29.mix, .int .i64 p29.size] 53 (0, 0))]], rfl, ⟨A30, c31, rfl, rfl, hr32⟩, hle, hs⟩)
  · rw [if_neg h34] at H
    refine at_cond_f rfl (decide_eq_false h34) ?_
    refine at_skip ?_
    refine at_thn ?_
    refine at_seq ?_
    refine at_reg [] [0, 1, 5] (L2 := [(0, .pointer (some ⟨g28, 0, none⟩)), (1, .int .i64 p33), (5, .int .u64 0)]) (obs := []) (by kernel_rfl) ?_ ?_
    · intro w hs; exact trivial
    refine at_thn ?_
    refine at_join (fun L I Ms => ∃ (k138 : Nat), ∃ (x136 : Int) (x137 : Int), L = [(0, .pointer (some ⟨g28, 0, none⟩)), (1, .int .i64 p33), (5, .int .u64 x136)] ∧ Ms = ([(g28, .cells #[.slice A30 p29.b.length c31, .int .i64 x137, .int .u64 p29.mix, .int .i64 p29.size] 53 (0, 0))] :: Fs) ∧ spec_l01Src_n_j0 k138 x136 x137 p29 p33 = some r ∧ ImmLe I0 I ∧ k138 ≤ k ∧ Rd (Kd.int .u8) I A30 c31 p29.b) ?_ ?_
    · clear H hle hr32
      intro L I Ms h_; obtain ⟨k138, x136, x137, hL_, hM_, H, hle, hk139, hr32⟩ := h_; rw [hL_, hM_]; clear hL_ hM_ L Ms
      rcases k138 with _ | k138
      · exact (no_none H).elim
      rw [spec_l01Src_n_j0] at H
      refine at_seq ?_
      refine at_x hmo (fun w => w.cell? ⟨g28, 2, none⟩ = some (.int .u64 p29.mix) ∧ w.cell? ⟨g28, 2, none⟩ = some (.int .u64 p29.mix)) [13] ?_
      refine at_xseg [0, 1, 2, 3, 4, 5, 6, 7, 8, 9, 10, 11, 12] 1 (#[true, true, true, true, true, true, true, true, true, true, true, true, true, false]) rfl (by kernel_rfl) [(4, .int .u64 p29.mix), (8, .int .u64 p29.mix)] [0, 1, 5, 47, 49] (L2 := [(0, .pointer (some ⟨g28, 0, none⟩)), (1, .int .i64 p33), (5, .int .u64 x136), (47, .int .u64 (bitsV .xor .u64 p29.mix (IntKind.u64.wrap (p29.mix * 2 ^ 13)))), (49, .pointer (some ⟨g28, 2, none⟩))]) (obs := [fun w => w.cell? ⟨g28, 2, none⟩ = some (.int .u64 p29.mix), fun w => w.cell? ⟨g28, 2, none⟩ = some (.int .u64 p29.mix), fun _ => 0 ≤ (13 : Int)]) (by kernel_rfl) (by kernel_rfl) (by kernel_rfl) (.inr fun w hs => ⟨hs.var (k := 0) rfl 2 rfl, hs.var (k := 0) rfl 2 rfl⟩) (fun w hS => ⟨hS.1, hS.2, (by decide : (0 : Int) ≤ 13)⟩) (fun w hs => ⟨hs.var (k := 0) rfl 2 rfl, hs.var (k := 0) rfl 2 rfl, (by decide : (0 : Int) ≤ 13)⟩) ?_
      refine at_x1 0 13 (#[true, true, true, true, true, true, true, true, true, true, true, true, true, true]) rfl (by kernel_rfl) (by kernel_rfl) rfl rfl ?_
      refine eff_store 0 rfl rfl rfl rfl rfl rfl (.inl (Nat.le_refl _)) rfl (Nat.le_of_ble_eq_true (by kernel_rfl)) rfl ?_
      refine at_xX (by kernel_rfl) ?_
      refine at_xend (by kernel_rfl) ?_
      refine at_thn ?_
      refine at_seq ?_
      refine at_x hmo (fun w => w.cell? ⟨g28, 2, none⟩ = some (.int .u64 (bitsV .xor .u64 p29.mix (IntKind.u64.wrap (p29.mix * 2 ^ 13)))) ∧ w.cell? ⟨g28, 2, none⟩ = some (.int .u64 (bitsV .xor .u64 p29.mix (IntKind.u64.wrap (p29.mix * 2 ^ 13))))) [13] ?_
      refine at_xseg [0, 1, 2, 3, 4, 5, 6, 7, 8, 9, 10, 11, 12] 1 (#[true, true, true, true, true, true, true, true, true, true, true, true, true, false]) rfl (by kernel_rfl) [(4, .int .u64 (bitsV .xor .u64 p29.mix (IntKind.u64.wrap (p29.mix * 2 ^ 13)))), (8, .int .u64 (bitsV .xor .u64 p29.mix (IntKind.u64.wrap (p29.mix * 2 ^ 13))))] [0, 1, 5, 60, 62] (L2 := [(0, .pointer (some ⟨g28, 0, none⟩)), (1, .int .i64 p33), (5, .int .u64 x136), (60, .int .u64 (bitsV .xor .u64 (bitsV .xor .u64 p29.mix (IntKind.u64.wrap (p29.mix * 2 ^ 13))) ((bitsV .xor .u64 p29.mix (IntKind.u64.wrap (p29.mix * 2 ^ 13))).fdiv (2 ^ 7)))), (62, .pointer (some ⟨g28, 2, none⟩))]) (obs := [fun w => w.cell? ⟨g28, 2, none⟩ = some (.int .u64 (bitsV .xor .u64 p29.mix (IntKind.u64.wrap (p29.mix * 2 ^ 13)))), fun w => w.cell? ⟨g28, 2, none⟩ = some (.int .u64 (bitsV .xor .u64 p29.mix (IntKind.u64.wrap (p29.mix * 2 ^ 13)))), fun _ => 0 ≤ (7 : Int)]) (by kernel_rfl) (by kernel_rfl) (by kernel_rfl) (.inr fun w hs => ⟨hs.var (k := 0) rfl 2 rfl, hs.var (k := 0) rfl 2 rfl⟩) (fun w hS => ⟨hS.1, hS.2, (by decide : (0 : Int) ≤ 7)⟩) (fun w hs => ⟨hs.var (k := 0) rfl 2 rfl, hs.var (k := 0) rfl 2 rfl, (by decide : (0 : Int) ≤ 7)⟩) ?_
      refine at_x1 0 13 (#[true, true, true, true, true, true, true, true, true, true, true, true, true, true]) rfl (by kernel_rfl) (by kernel_rfl) rfl rfl ?_
      refine eff_store 0 rfl rfl rfl rfl rfl rfl (.inl (Nat.le_refl _)) rfl (Nat.le_of_ble_eq_true (by kernel_rfl)) rfl ?_
      refine at_xX (by kernel_rfl) ?_
      refine at_xend (by kernel_rfl) ?_
      refine at_thn ?_
      refine at_seq ?_
      refine at_x hmo (fun w => w.cell? ⟨g28, 2, none⟩ = some (.int .u64 (bitsV .xor .u64 (bitsV .xor .u64 p29.mix (IntKind.u64.wrap (p29.mix * 2 ^ 13))) ((bitsV .xor .u64 p29.mix (IntKind.u64.wrap (p29.mix * 2 ^ 13))).fdiv (2 ^ 7)))) ∧ w.cell? ⟨g28, 2, none⟩ = some (.int .u64 (bitsV .xor .u64 (bitsV .xor .u64 p29.mix (IntKind.u64.wrap (p29.mix * 2 ^ 13))) ((bitsV .xor .u64 p29.mix (IntKind.u64.wrap (p29.mix * 2 ^ 13))).fdiv (2 ^ 7))))) [13] ?_
      refine at_xseg [0, 1, 2, 3, 4, 5, 6, 7, 8, 9, 10, 11, 12] 1 (#[true, true, true, true, true, true, true, true, true, true, true, true, true, false]) rfl (by kernel_rfl) [(4, .int .u64 (bitsV .xor .u64 (bitsV .xor .u64 p29.mix (IntKind.u64.wrap (p29.mix * 2 ^ 13))) ((bitsV .xor .u64 p29.mix (IntKind.u64.wrap (p29.mix * 2 ^ 13))).fdiv (2 ^ 7)))), (8, .int .u64 (bitsV .xor .u64 (bitsV .xor .u64 p29.mix (IntKind.u64.wrap (p29.mix * 2 ^ 13))) ((bitsV .xor .u64 p29.mix (IntKind.u64.wrap (p29.mix * 2 ^ 13))).fdiv (2 ^ 7))))] [0, 1, 5, 73, 75] (L2 := [(0, .pointer (some ⟨g28, 0, none⟩)), (1, .int .i64 p33), (5, .int .u64 x136), (73, .int .u64 (bitsV .xor .u64 (bitsV .xor .u64 (bitsV .xor .u64 p29.mix (IntKind.u64.wrap (p29.mix * 2 ^ 13))) ((bitsV .xor .u64 p29.mix (IntKind.u64.wrap (p29.mix * 2 ^ 13))).fdiv (2 ^ 7))) (IntKind.u64.wrap ((bitsV .xor .u64 (bitsV .xor .u64 p29.mix (IntKind.u64.wrap (p29.mix * 2 ^ 13))) ((bitsV .xor .u64 p29.mix (IntKind.u64.wrap (p29.mix * 2 ^ 13))).fdiv (2 ^ 7))) * 2 ^ 17)))), (75, .pointer (some ⟨g28, 2, none⟩))]) (obs := [fun w => w.cell? ⟨g28, 2, none⟩ = some (.int .u64 (bitsV .xor .u64 (bitsV .xor .u64 p29.mix (IntKind.u64.wrap (p29.mix * 2 ^ 13))) ((bitsV .xor .u64 p29.mix (IntKind.u64.wrap (p29.mix * 2 ^ 13))).fdiv (2 ^ 7)))), fun w => w.cell? ⟨g28, 2, none⟩ = some (.int .u64 (bitsV .xor .u64 (bitsV .xor .u64 p29.mix (IntKind.u64.wrap (p29.mix * 2 ^ 13))) ((bitsV .xor .u64 p29.mix (IntKind.u64.wrap (p29.mix * 2 ^ 13))).fdiv (2 ^ 7)))), fun _ => 0 ≤ (17 : Int)]) (by kernel_rfl) (by kernel_rfl) (by kernel_rfl) (.inr fun w hs => ⟨hs.var (k := 0) rfl 2 rfl, hs.var (k := 0) rfl 2 rfl⟩) (fun w hS => ⟨hS.1, hS.2, (by decide : (0 : Int) ≤ 17)⟩) (fun w hs => ⟨hs.var (k := 0) rfl 2 rfl, hs.var (k := 0) rfl 2 rfl, (by decide : (0 : Int) ≤ 17)⟩) ?_
      refine at_x1 0 13 (#[true, true, true, true, true, true, true, true, true, true, true, true, true, true]) rfl (by kernel_rfl) (by kernel_rfl) rfl rfl ?_
      refine eff_store 0 rfl rfl rfl rfl rfl rfl (.inl (Nat.le_refl _)) rfl (Nat.le_of_ble_eq_true (by kernel_rfl)) rfl ?_
      refine at_xX (by kernel_rfl) ?_
      refine at_xend (by kernel_rfl) ?_
      refine at_thn ?_
      refine at_seq ?_
      obtain ⟨h140, H⟩ := ite_some H
      refine at_reg [(4, .int .u64 (bitsV .xor .u64 (bitsV .xor .u64 (bitsV .xor .u64 p29.mix (IntKind.u64.wrap (p29.mix * 2 ^ 13))) ((bitsV .xor .u64 p29.mix (IntKind.u64.wrap (p29.mix * 2 ^ 13))).fdiv (2 ^ 7))) (IntKind.u64.wrap ((bitsV .xor .u64 (bitsV .xor .u64 p29.mix (IntKind.u64.wrap (p29.mix * 2 ^ 13))) ((bitsV .xor .u64 p29.mix (IntKind.u64.wrap (p29.mix * 2 ^ 13))).fdiv (2 ^ 7))) * 2 ^ 17))))] [4] (L2 := [(4, .int .i64 (IntKind.i64.wrap ((IntKind.u64.wrap (x136 + ((bitsV .xor .u64 (bitsV .xor .u64 (bitsV .xor .u64 p29.mix (IntKind.u64.wrap (p29.mix * 2 ^ 13))) ((bitsV .xor .u64 p29.mix (IntKind.u64.wrap (p29.mix * 2 ^ 13))).fdiv (2 ^ 7))) (IntKind.u64.wrap ((bitsV .xor .u64 (bitsV .xor .u64 p29.mix (IntKind.u64.wrap (p29.mix * 2 ^ 13))) ((bitsV .xor .u64 p29.mix (IntKind.u64.wrap (p29.mix * 2 ^ 13))).fdiv (2 ^ 7))) * 2 ^ 17))).fdiv (2 ^ 20)))).tmod (IntKind.u64.wrap p33))))]) (obs := [fun w => w.cell? ⟨g28, 2, none⟩ = some (.int .u64 (bitsV .xor .u64 (bitsV .xor .u64 (bitsV .xor .u64 p29.mix (IntKind.u64.wrap (p29.mix * 2 ^ 13))) ((bitsV .xor .u64 p29.mix (IntKind.u64.wrap (p29.mix * 2 ^ 13))).fdiv (2 ^ 7))) (IntKind.u64.wrap ((bitsV .xor .u64 (bitsV .xor .u64 p29.mix (IntKind.u64.wrap (p29.mix * 2 ^ 13))) ((bitsV .xor .u64 p29.mix (IntKind.u64.wrap (p29.mix * 2 ^ 13))).fdiv (2 ^ 7))) * 2 ^ 17)))), fun _ => 0 ≤ (20 : Int), fun _ => ¬ (IntKind.u64.wrap p33) = 0]) (by kernel_rfl) ?_ ?_
      · intro w hs; exact ⟨hs.var (k := 0) rfl 2 rfl, (by decide : (0 : Int) ≤ 20), h140⟩
      refine at_thn ?_
      refine at_ret ?_
      obtain rfl := Option.some.inj H
      refine at_done (vs := [.int .i64 (IntKind.i64.wrap ((IntKind.u64.wrap (x136 + ((bitsV .xor .u64 (bitsV .xor .u64 (bitsV .xor .u64 p29.mix (IntKind.u64.wrap (p29.mix * 2 ^ 13))) ((bitsV .xor .u64 p29.mix (IntKind.u64.wrap (p29.mix * 2 ^ 13))).fdiv (2 ^ 7))) (IntKind.u64.wrap ((bitsV .xor .u64 (bitsV .xor .u64 p29.mix (IntKind.u64.wrap (p29.mix * 2 ^ 13))) ((bitsV .xor .u64 p29.mix (IntKind.u64.wrap (p29.mix * 2 ^ 13))).fdiv (2 ^ 7))) * 2 ^ 17))).fdiv (2 ^ 20)))).tmod (IntKind.u64.wrap p33)))]) (obs := []) (.inl rfl) [.tmp 4] [] rfl (by kernel_rfl) (fun w hs => trivial) (fun w hs => ⟨_, _, [[(g28, .cells #[.slice A30 p29.b.length c31, .int .i64 x137, .int .u64 (bitsV .xor .u64 (bitsV .xor .u64 (bitsV .xor .u64 p29.mix (IntKind.u64.wrap (p29.mix * 2 ^ 13))) ((bitsV .xor .u64 p29.mix (IntKind.u64.wrap (p29.mix * 2 ^ 13))).fdiv (2 ^ 7))) (IntKind.u64.wrap ((bitsV .xor .u64 (bitsV .xor .u64 p29.mix (IntKind.u64.wrap (p29.mix * 2 ^ 13))) ((bitsV .xor .u64 p29.mix (IntKind.u64.wrap (p29.mix * 2 ^ 13))).fdiv (2 ^ 7))) * 2 ^ 17))), .int .i64 p29.size] 53 (0, 0))]], rfl, ⟨A30, c31, rfl, rfl, hr32⟩, hle, hs⟩)
    · intro Jn35
      refine at_seq ?_
      refine at_regd hmo [(3, .int .i64 p29.at_), (7, .slice A30 p29.b.length c31)] [0, 1, 5, 17] (by kernel_rfl) (L2 := [(0, .pointer (some ⟨g28, 0, none⟩)), (1, .int .i64 p33), (5, .int .u64 0), (17, .bool (decide (p29.at_ < (p29.b.length : Int))))]) (obs := [fun w => w.cell? ⟨g28, 1, none⟩ = some (.int .i64 p29.at_), fun w => w.cell? ⟨g28, 0, none⟩ = some (.slice A30 p29.b.length c31)]) (by kernel_rfl) ?_ ?_
      · intro w hs; exact ⟨hs.var (k := 0) rfl 1 rfl, hs.var (k := 0) rfl 0 rfl⟩
      refine at_thn ?_
      by_cases h141 : p29.at_ < (p29.b.length : Int)
      · rw [if_pos h141] at H
        refine at_cond_t rfl (decide_eq_true h141) ?_
        refine at_seq ?_
        obtain ⟨h142, H⟩ := ite_some H
        refine at_regd hmo [(3, .slice A30 p29.b.length c31), (7, .int .i64 p29.at_), (9, .int .u8 (rdA 0 p29.b p29.at_))] [0, 1, 5] (by kernel_rfl) (L2 := [(0, .pointer (some ⟨g28, 0, none⟩)), (1, .int .i64 p33), (5, .int .u64 (IntKind.u64.wrap (rdA 0 p29.b p29.at_)))]) (obs := [fun w => w.cell? ⟨g28, 0, none⟩ = some (.slice A30 p29.b.length c31), fun w => w.cell? ⟨g28, 1, none⟩ = some (.int .i64 p29.at_), fun _ => A30.isSome = true ∧ 0 ≤ p29.at_ ∧ p29.at_ < ((p29.b.length : Nat) : Int), fun w => w.cell? ((A30.getD ad0).add (p29.at_.toNat * 1)) = some (.int .u8 (rdA 0 p29.b p29.at_))]) (by kernel_rfl) ?_ ?_
        · intro w hs; exact ⟨hs.var (k := 0) rfl 0 rfl, hs.var (k := 0) rfl 1 rfl, ⟨hr32.ne p29.at_ h142 h141, h142, h141⟩, hr32.one 0 p29.at_ h142 h141 hs⟩
        refine at_thn ?_
        refine at_ops [0, 1, 2, 3, 4, 5, 6, 7, 8] rfl ?_
        refine at_seg [0, 1, 2, 3, 4, 5, 6, 7] [8] rfl [(4, .int .i64 p29.at_)] [0, 1, 5, 34, 36] (L2 := [(0, .pointer (some ⟨g28, 0, none⟩)), (1, .int .i64 p33), (5, .int .u64 (IntKind.u64.wrap (rdA 0 p29.b p29.at_))), (34, .int .i64 (IntKind.i64.wrap (p29.at_ + 1))), (36, .pointer (some ⟨g28, 1, none⟩))]) (obs := [fun w => w.cell? ⟨g28, 1, none⟩ = some (.int .i64 p29.at_)]) (by kernel_rfl) ?_ ?_
        · intro w hs; exact hs.var (k := 0) rfl 1 rfl
        refine at_eff rfl rfl ?_
        refine eff_store 0 rfl rfl rfl rfl rfl rfl (.inl (Nat.le_refl _)) rfl (Nat.le_of_ble_eq_true (by kernel_rfl)) rfl ?_
        refine at_end ?_
        refine at_thn ?_
        refine at_keep [0, 1, 5] (L2 := [(0, .pointer (some ⟨g28, 0, none⟩)), (1, .int .i64 p33), (5, .int .u64 (IntKind.u64.wrap (rdA 0 p29.b p29.at_)))]) rfl ?_
        exact Jn35 _ _ _ ⟨_, IntKind.u64.wrap (rdA 0 p29.b p29.at_), IntKind.i64.wrap (p29.at_ + 1), rfl, rfl, H, hle, by omega, hr32⟩
      · rw [if_neg h141] at H
        refine at_cond_f rfl (decide_eq_false h141) ?_
        refine at_skip ?_
        refine at_thn ?_
        refine at_keep [0, 1, 5] (L2 := [(0, .pointer (some ⟨g28, 0, none⟩)), (1, .int .i64 p33), (5, .int .u64 0)]) rfl ?_
        exact Jn35 _ _ _ ⟨_, 0, p29.at_, rfl, rfl, H, hle, by omega, hr32⟩

/-! ### (*loop.example/g00146/spec.l01Src).pick: function 29 -/
def spec_l01Src_pick (k : Nat) (p72 : T_spec_l01Src) (p76 : List (List UInt8)) : Option ((List UInt8) × T_spec_l01Src) := (spec_l01Src_n k p72 (p76.length : Int)).bind fun b5 => (if 0 ≤ b5.1 then (if b5.1 < (p76.length : Int) then (some (rdA [] p76 b5.1, b5.2)) else none) else none)
set_option maxHeartbeats 4000000 in
set_option maxRecDepth 100000 in
theorem spec_l01Src_pick.calls {k : Nat} {p72 : T_spec_l01Src} {p76 : List (List UInt8)} {r : (List UInt8) × T_spec_l01Src} {I0 : Imm} {g71 : Nat} {A73 : Option Addr} {c74 : Nat} {A77 : Option Addr} {c78 : Nat} (H : spec_l01Src_pick k p72 p76 = some r) (hr75 : Rd (Kd.int .u8) I0 A73 c74 p72.b) (hr79 : Rd Kd.string I0 A77 c78 p76) :
    Meets Try.prog 29 ([.pointer (some ⟨g71, 0, none⟩), .slice A77 p76.length c78] : List Value).toArray I0 [[(g71, .cells #[.slice A73 p72.b.length c74, .int .i64 p72.at_, .int .u64 p72.mix, .int .i64 p72.size] 53 (0, 0))]] (fun v J M => ∃ (A_1 : Option Addr) (c_2 : Nat), v = str r.1 ∧ M = [[(g71, .cells #[.slice A_1 r.2.b.length c_2, .int .i64 r.2.at_, .int .u64 r.2.mix, .int .i64 r.2.size] 53 (0, 0))]] ∧ Rd (Kd.int .u8) J A_1 c_2 r.2.b) := by
  have hle := ImmLe.refl I0
  unfold spec_l01Src_pick at H
  refine fn_intro (fn := Try.f29) 12 Try.func29 rfl rfl rfl (fun E Fs => ?_)
  refine at_seq ?_
  refine at_reg [] [0, 1] (L2 := [(0, .pointer (some ⟨g71, 0, none⟩)), (1, .slice A77 p76.length c78)]) (obs := []) (by kernel_rfl) ?_ ?_
  · intro w hs; exact trivial
  refine at_thn ?_
  refine at_seq ?_
  refine at_ops [0, 1, 2, 3, 4, 5, 6, 7] rfl ?_
  refine at_seg [0, 1, 2, 3] [4, 5, 6, 7] rfl [] [5, 6, 8] (L2 := [(5, .slice A77 p76.length c78), (6, .pointer (some ⟨g71, 0, none⟩)), (8, .int .i64 (p76.length : Int))]) (obs := []) (by kernel_rfl) ?_ ?_
  · intro w hs; exact trivial
  refine at_eff rfl rfl ?_
  obtain ⟨b5, H80, H⟩ := bind_some H
  refine eff_call rfl rfl ok26 rfl rfl (show Meets Try.prog 26 ([.pointer (some ⟨g71, 0, none⟩), .int .i64 (p76.length : Int)] : List Value).toArray _ [[(g71, .cells #[.slice A73 p72.b.length c74, .int .i64 p72.at_, .int .u64 p72.mix, .int .i64 p72.size] 53 (0, 0))]] _ from spec_l01Src_n.calls H80 hr75) (Mr := (Fs)) (List.Perm.refl _) (fun v81 J82 M83 hq84 hJ85 => ?_)
  replace hle := hle.trans hJ85
  replace hr75 := hr75.mono hJ85
  replace hr79 := hr79.mono hJ85
  obtain ⟨A86, c87, rfl, rfl, hr88⟩ := hq84
  obtain ⟨h89, H⟩ := ite_some H
  obtain ⟨h90, H⟩ := ite_some H
  refine at_seg [5, 6, 7] [] rfl [(6, str (rdA [] p76 b5.1))] [4] (L2 := [(4, str (rdA [] p76 b5.1))]) (obs := [fun _ => A77.isSome = true ∧ 0 ≤ b5.1 ∧ b5.1 < ((p76.length : Nat) : Int), fun w => w.cell? ((A77.getD ad0).add (b5.1.toNat * 1)) = some (str (rdA [] p76 b5.1))]) (by kernel_rfl) ?_ ?_
  · intro w hs; exact ⟨⟨hr79.ne b5.1 h89 h90, h89, h90⟩, hr79.one [] b5.1 h89 h90 hs⟩
  refine at_end ?_
  refine at_thn ?_
  refine at_ret ?_
  obtain rfl := Option.some.inj H
  refine at_done (vs := [str (rdA [] p76 b5.1)]) (obs := []) (.inl rfl) [.tmp 4] [] rfl (by kernel_rfl) (fun w hs => trivial) (fun w hs => ⟨_, _, [[(g71, .cells #[.slice A86 b5.2.b.length c87, .int .i64 b5.2.at_, .int .u64 b5.2.mix, .int .i64 b5.2.size] 53 (0, 0))]], rfl, ⟨A86, c87, rfl, rfl, hr88⟩, hle, hs⟩)

/-! ### (*loop.example/g00146/spec.l01Src).l07Bytes: function 28 -/
def spec_l01Src_l07Bytes_l0 : Nat → Int → (List UInt8) → (List Int) → Int → Int → Int → Option ((List UInt8) × T_spec_l01Src)
  | 0, _, _, _, _, _, _ => none
  | k + 1, x68, x69, x70, x74, x75, x76 => if x68 > 0 then ((spec_l01Src_pick k (⟨x70, x74, x75, x76⟩ : T_spec_l01Src) ([([27] : List UInt8), ([91] : List UInt8), ([65] : List UInt8), ([97] : List UInt8), ([120] : List UInt8), ([1] : List UInt8)] : List (List UInt8))).bind fun b5 => (if x69.length + b5.1.length ≤ 9223372036854775807 then (spec_l01Src_l07Bytes_l0 k (IntKind.i64.wrap (x68 - 1)) (x69 ++ b5.1) b5.2.b b5.2.at_ b5.2.mix b5.2.size) else none)) else (some (x69, (⟨x70, x74, x75, x76⟩ : T_spec_l01Src)))
def spec_l01Src_l07Bytes (k : Nat) (p63 : T_spec_l01Src) (p67 : Int) : Option ((List UInt8) × T_spec_l01Src) := spec_l01Src_l07Bytes_l0 k p67 ([] : List UInt8) p63.b p63.at_ p63.mix p63.size
set_option maxHeartbeats 4000000 in
set_option maxRecDepth 100000 in
theorem spec_l01Src_l07Bytes.calls {k : Nat} {p63 : T_spec_l01Src} {p67 : Int} {r : (List UInt8) × T_spec_l01Src} {I0 : Imm} {g62 : Nat} {A64 : Option Addr} {c65 : Nat} (H : spec_l01Src_l07Bytes k p63 p67 = some r) (hr66 : Rd (Kd.int .u8) I0 A64 c65 p63.b) :
    Meets Try.prog 28 ([.pointer (some ⟨g62, 0, none⟩), .int .i64 p67] : List Value).toArray I0 [[(g62, .cells #[.slice A64 p63.b.length c65, .int .i64 p63.at_, .int .u64 p63.mix, .int .i64 p63.size] 53 (0, 0))]] (fun v J M => ∃ (A_1 : Option Addr) (c_2 : Nat), v = str r.1 ∧ M = [[(g62, .cells #[.slice A_1 r.2.b.length c_2, .int .i64 r.2.at_, .int .u64 r.2.mix, .int .i64 r.2.size] 53 (0, 0))]] ∧ Rd (Kd.int .u8) J A_1 c_2 r.2.b) := by
  have hle := ImmLe.refl I0
  unfold spec_l01Src_l07Bytes at H
  refine fn_intro (fn := Try.f28) 16 Try.func28 rfl rfl rfl (fun E Fs => ?_)
  refine at_seq ?_
  refine at_reg [] [0, 1] (L2 := [(0, .pointer (some ⟨g62, 0, none⟩)), (1, .int .i64 p67)]) (obs := []) (by kernel_rfl) ?_ ?_
  · intro w hs; exact trivial
  refine at_thn ?_
  refine at_seq ?_
  refine at_reg [] [0, 1, 5] (L2 := [(0, .pointer (some ⟨g62, 0, none⟩)), (1, .int .i64 p67), (5, str ([] : List UInt8))]) (obs := []) (by kernel_rfl) ?_ ?_
  · intro w hs; exact trivial
  refine at_thn ?_
  refine at_seq ?_
  refine at_block ?_
  refine at_keep [0, 1, 5] (L2 := [(0, .pointer (some ⟨g62, 0, none⟩)), (1, .int .i64 p67), (5, str ([] : List UInt8))]) rfl ?_
  refine at_loop (fun k77 L I Ms => ∃ (x68 : Int) (x69 : List UInt8) (x70 : List Int) (A71 : Option Addr) (c72 : Nat) (x74 : Int) (x75 : Int) (x76 : Int), L = [(0, .pointer (some ⟨g62, 0, none⟩)), (1, .int .i64 x68), (5, str x69)] ∧ Ms = ([(g62, .cells #[.slice A71 x70.length c72, .int .i64 x74, .int .u64 x75, .int .i64 x76] 53 (0, 0))] :: Fs) ∧ spec_l01Src_l07Bytes_l0 k77 x68 x69 x70 x74 x75 x76 = some r ∧ ImmLe I0 I ∧ k77 ≤ k ∧ Rd (Kd.int .u8) I A71 c72 x70) ?_ ?_ k ⟨p67, ([] : List UInt8), p63.b, A64, c65, p63.at_, p63.mix, p63.size, rfl, rfl, H, hle, Nat.le_refl _, hr66⟩
  · rintro L I Ms ⟨_, _, _, _, _, _, _, _, rfl, rfl, H, _⟩; exact no_none H
  · clear H hle hr66
    intro k77 ih78 L I Ms h_; obtain ⟨x68, x69, x70, A71, c72, x74, x75, x76, hL_, hM_, H, hle, hk79, hr73⟩ := h_; rw [hL_, hM_]; clear hL_ hM_ L Ms
    rw [spec_l01Src_l07Bytes_l0] at H
    refine at_seq ?_
    refine at_seq ?_
    refine at_reg [] [0, 1, 5, 7] (L2 := [(0, .pointer (some ⟨g62, 0, none⟩)), (1, .int .i64 x68), (5, str x69), (7, .bool (decide (x68 > 0)))]) (obs := []) (by kernel_rfl) ?_ ?_
    · intro w hs; exact trivial
    refine at_thn ?_
    by_cases h80 : x68 > 0
    · rw [if_pos h80] at H
      refine at_cond_t rfl (decide_eq_true h80) ?_
      refine at_skip ?_
      refine at_thn ?_
      refine at_seq ?_
      refine at_block ?_
      refine at_ops [0, 1, 2, 3, 4, 5] rfl ?_
      refine at_seg [0, 1] [2, 3, 4, 5] rfl [] [0, 1, 5, 10, 11] (L2 := [(0, .pointer (some ⟨g62, 0, none⟩)), (1, .int .i64 x68), (5, str x69), (10, str x69), (11, .pointer (some ⟨g62, 0, none⟩))]) (obs := []) (by kernel_rfl) ?_ ?_
      · intro w hs; exact trivial
      refine at_eff rfl rfl ?_
      refine eff_buildSlice (e := 9) (cells := #[str ([27] : List UInt8), str ([91] : List UInt8), str ([65] : List UInt8), str ([97] : List UInt8), str ([120] : List UInt8), str ([1] : List UInt8)]) ([([27] : List UInt8), ([91] : List UInt8), ([65] : List UInt8), ([97] : List UInt8), ([120] : List UInt8), ([1] : List UInt8)] : List (List UInt8)).length rfl rfl rfl (by kernel_rfl) (fun g81 => ?_)
      have ho82 := own_lit (K := Kd.string) (e := 9) (I := I) (xs := ([([27] : List UInt8), ([91] : List UInt8), ([65] : List UInt8), ([97] : List UInt8), ([120] : List UInt8), ([1] : List UInt8)] : List (List UInt8))) (css := [[str ([27] : List UInt8)], [str ([91] : List UInt8)], [str ([65] : List UInt8)], [str ([97] : List UInt8)], [str ([120] : List UInt8)], [str ([1] : List UInt8)]]) (cells := #[str ([27] : List UInt8), str ([91] : List UInt8), str ([65] : List UInt8), str ([97] : List UInt8), str ([120] : List UInt8), str ([1] : List UInt8)]) (b := g81) ⟨rfl, ⟨rfl, ⟨rfl, ⟨rfl, ⟨rfl, ⟨rfl, trivial⟩⟩⟩⟩⟩⟩ rfl
      refine at_eff rfl rfl ?_
      refine at_freeze (k := 0) rfl rfl (fun J83 hJ84 hin85 => ?_)
      replace hle := hle.trans hJ84
      replace ho82 := ho82.mono hJ84
      replace hr73 := hr73.mono hJ84
      have hr86 := ho82.rd (ImmLe.refl _) hin85
      obtain ⟨b5, H87, H⟩ := bind_some H
      refine eff_call rfl rfl ok29 rfl rfl (show Meets Try.prog 29 ([.pointer (some ⟨g62, 0, none⟩), .slice (some ⟨g81, 0, none⟩ : Option Addr) ([([27] : List UInt8), ([91] : List UInt8), ([65] : List UInt8), ([97] : List UInt8), ([120] : List UInt8), ([1] : List UInt8)] : List (List UInt8)).length (([([27] : List UInt8), ([91] : List UInt8), ([65] : List UInt8), ([97] : List UInt8), ([120] : List UInt8), ([1] : List UInt8)] : List (List UInt8)).length)] : List Value).toArray _ [[(g62, .cells #[.slice A71 x70.length c72, .int .i64 x74, .int .u64 x75, .int .i64 x76] 53 (0, 0))]] _ from spec_l01Src_pick.calls H87 hr73 hr86) (Mr := (Fs)) (List.Perm.refl _) (fun v88 J89 M90 hq91 hJ92 => ?_)
      replace hle := hle.trans hJ92
      replace hr73 := hr73.mono hJ92
      replace hr86 := hr86.mono hJ92
      obtain ⟨A93, c94, rfl, rfl, hr95⟩ := hq91
      obtain ⟨h96, H⟩ := ite_some H
      refine at_seg [4, 5] [] rfl [] [0, 1, 5] (L2 := [(0, .pointer (some ⟨g62, 0, none⟩)), (1, .int .i64 x68), (5, str (x69 ++ b5.1))]) (obs := [fun _ => x69.length + b5.1.length ≤ 9223372036854775807]) (by kernel_rfl) ?_ ?_
      · intro w hs; exact h96
      refine at_end ?_
      refine at_in_norm ?_
      refine at_thn ?_
      refine at_reg [] [0, 1, 5] (L2 := [(0, .pointer (some ⟨g62, 0, none⟩)), (1, .int .i64 (IntKind.i64.wrap (x68 - 1))), (5, str (x69 ++ b5.1))]) (obs := []) (by kernel_rfl) ?_ ?_
      · intro w hs; exact trivial
      refine at_thn ?_
      refine at_keep [0, 1, 5] (L2 := [(0, .pointer (some ⟨g62, 0, none⟩)), (1, .int .i64 (IntKind.i64.wrap (x68 - 1))), (5, str (x69 ++ b5.1))]) rfl ?_
      exact ih78 _ (by omega) _ _ _ ⟨IntKind.i64.wrap (x68 - 1), x69 ++ b5.1, b5.2.b, A93, c94, b5.2.at_, b5.2.mix, b5.2.size, rfl, rfl, H, hle, by omega, hr95⟩
    · rw [if_neg h80] at H
      refine at_cond_f rfl (decide_eq_false h80) ?_
      refine at_exit ?_
      refine at_then_exit ?_
      refine at_then_exit ?_
      refine at_in_hit ?_
      refine at_thn ?_
      refine at_seq ?_
      refine at_reg [] [4] (L2 := [(4, str x69)]) (obs := []) (by kernel_rfl) ?_ ?_
      · intro w hs; exact trivial
      refine at_thn ?_
      refine at_ret ?_
      obtain rfl := Option.some.inj H
      refine at_done (vs := [str x69]) (obs := []) (.inl rfl) [.tmp 4] [] rfl (by kernel_rfl) (fun w hs => trivial) (fun w hs => ⟨_, _, [[(g62, .cells #[.slice A71 x70.length c72, .int .i64 x74, .int .u64 x75, .int .i64 x76] 53 (0, 0))]], rfl, ⟨A71, c72, rfl, rfl, hr73⟩, hle, hs⟩)

/-! ### (*loop.example/g00146/spec.l01Src).l07Key: function 13 -/
def spec_l01Src_l07Key (k : Nat) (p39 : T_spec_l01Src) : Option (T_impl_Key × T_spec_l01Src) := (spec_l01Src_n k p39 2).bind fun b3 => ((spec_l01Src_n k b3.2 3).bind fun b4 => ((spec_l01Src_l07Bytes k b4.2 (IntKind.i64.wrap (1 + b4.1))).bind fun b5 => ((spec_l01Src_pick k b5.2 ([([108, 101, 102, 116] : List UInt8), ([114, 105, 103, 104, 116] : List UInt8), ([107, 105, 108, 108, 45, 108, 105, 110, 101] : List UInt8), ([98, 101, 108, 108] : List UInt8), ([117, 112] : List UInt8)] : List (List UInt8))).bind fun b6 => (some ((⟨IntKind.i64.wrap (1 + b3.1), b5.1, b6.1⟩ : T_impl_Key), b6.2)))))
set_option maxHeartbeats 4000000 in
set_option maxRecDepth 100000 in
theorem spec_l01Src_l07Key.calls {k : Nat} {p39 : T_spec_l01Src} {r : T_impl_Key × T_spec_l01Src} {I0 : Imm} {g38 : Nat} {A40 : Option Addr} {c41 : Nat} (H : spec_l01Src_l07Key k p39 = some r) (hr42 : Rd (Kd.int .u8) I0 A40 c41 p39.b) :
    Meets Try.prog 13 ([.pointer (some ⟨g38, 0, none⟩)] : List Value).toArray I0 [[(g38, .cells #[.slice A40 p39.b.length c41, .int .i64 p39.at_, .int .u64 p39.mix, .int .i64 p39.size] 53 (0, 0))]] (fun v J M => ∃ (A_1 : Option Addr) (c_2 : Nat), v = .agg #[.int .i64 r.1.Map, str r.1.Keys, str r.1.Name] ∧ M = [[(g38, .cells #[.slice A_1 r.2.b.length c_2, .int .i64 r.2.at_, .int .u64 r.2.mix, .int .i64 r.2.size] 53 (0, 0))]] ∧ Rd (Kd.int .u8) J A_1 c_2 r.2.b) := by
  have hle := ImmLe.refl I0
  unfold spec_l01Src_l07Key at H
  refine fn_intro (fn := Try.f13) 15 Try.func13 rfl rfl rfl (fun E Fs => ?_)
  refine at_seq ?_
  refine at_ops [0] rfl ?_
  refine at_eff rfl rfl ?_
  obtain ⟨i_, hi_, hz_, _, _⟩ := info25
  refine eff_alloc rfl rfl hi_ hz_ #[.int .i64 0, str ([] : List UInt8), str ([] : List UInt8)] rfl (fun g43 => ?_)
  refine at_end ?_
  refine at_thn ?_
  refine at_seq ?_
  refine at_ops [0, 1, 2, 3, 4, 5, 6, 7, 8, 9, 10, 11, 12] rfl ?_
  refine at_seg [0] [1, 2, 3, 4, 5, 6, 7, 8, 9, 10, 11, 12] rfl [] [0, 2, 3] (L2 := [(0, .pointer (some ⟨g38, 0, none⟩)), (2, .pointer (some ⟨g43, 0, none⟩)), (3, .pointer (some ⟨g38, 0, none⟩))]) (obs := []) (by kernel_rfl) ?_ ?_
  · intro w hs; exact trivial
  refine at_eff rfl rfl ?_
  obtain ⟨b3, H44, H⟩ := bind_some H
  refine eff_call rfl rfl ok26 rfl rfl (show Meets Try.prog 26 ([.pointer (some ⟨g38, 0, none⟩), .int .i64 2] : List Value).toArray _ [[(g38, .cells #[.slice A40 p39.b.length c41, .int .i64 p39.at_, .int .u64 p39.mix, .int .i64 p39.size] 53 (0, 0))]] _ from spec_l01Src_n.calls H44 hr42) (Mr := ([(g43, .cells #[.int .i64 0, str ([] : List UInt8), str ([] : List UInt8)] 25 (0, 0))] :: Fs)) ((perm_at (k := 1) rfl).trans ((List.Perm.refl _).cons _)) (fun v45 J46 M47 hq48 hJ49 => ?_)
  replace hle := hle.trans hJ49
  replace hr42 := hr42.mono hJ49
  obtain ⟨A50, c51, rfl, rfl, hr52⟩ := hq48
  refine at_seg [2, 3, 4] [5, 6, 7, 8, 9, 10, 11, 12] rfl [] [0, 2, 5, 6, 7] (L2 := [(0, .pointer (some ⟨g38, 0, none⟩)), (2, .pointer (some ⟨g43, 0, none⟩)), (5, .int .i64 (IntKind.i64.wrap (1 + b3.1))), (6, .pointer (some ⟨g38, 0, none⟩)), (7, .pointer (some ⟨g38, 0, none⟩))]) (obs := []) (by kernel_rfl) ?_ ?_
  · intro w hs; exact trivial
  refine at_eff rfl rfl ?_
  obtain ⟨b4, H53, H⟩ := bind_some H
  refine eff_call rfl rfl ok26 rfl rfl (show Meets Try.prog 26 ([.pointer (some ⟨g38, 0, none⟩), .int .i64 3] : List Value).toArray _ [[(g38, .cells #[.slice A50 b3.2.b.length c51, .int .i64 b3.2.at_, .int .u64 b3.2.mix, .int .i64 b3.2.size] 53 (0, 0))]] _ from spec_l01Src_n.calls H53 hr52) (Mr := ([(g43, .cells #[.int .i64 0, str ([] : List UInt8), str ([] : List UInt8)] 25 (0, 0))] :: Fs)) (List.Perm.refl _) (fun v54 J55 M56 hq57 hJ58 => ?_)
  replace hle := hle.trans hJ58
  replace hr52 := hr52.mono hJ58
  obtain ⟨A59, c60, rfl, rfl, hr61⟩ := hq57
  refine at_seg [6] [7, 8, 9, 10, 11, 12] rfl [] [0, 2, 5, 6, 9] (L2 := [(0, .pointer (some ⟨g38, 0, none⟩)), (2, .pointer (some ⟨g43, 0, none⟩)), (5, .int .i64 (IntKind.i64.wrap (1 + b3.1))), (6, .pointer (some ⟨g38, 0, none⟩)), (9, .int .i64 (IntKind.i64.wrap (1 + b4.1)))]) (obs := []) (by kernel_rfl) ?_ ?_
  · intro w hs; exact trivial
  refine at_eff rfl rfl ?_
  obtain ⟨b5, H62, H⟩ := bind_some H
  refine eff_call rfl rfl ok28 rfl rfl (show Meets Try.prog 28 ([.pointer (some ⟨g38, 0, none⟩), .int .i64 (IntKind.i64.wrap (1 + b4.1))] : List Value).toArray _ [[(g38, .cells #[.slice A59 b4.2.b.length c60, .int .i64 b4.2.at_, .int .u64 b4.2.mix, .int .i64 b4.2.size] 53 (0, 0))]] _ from spec_l01Src_l07Bytes.calls H62 hr61) (Mr := ([(g43, .cells #[.int .i64 0, str ([] : List UInt8), str ([] : List UInt8)] 25 (0, 0))] :: Fs)) (List.Perm.refl _) (fun v63 J64 M65 hq66 hJ67 => ?_)
  replace hle := hle.trans hJ67
  replace hr61 := hr61.mono hJ67
  obtain ⟨A68, c69, rfl, rfl, hr70⟩ := hq66
  refine at_seg [8] [9, 10, 11, 12] rfl [] [2, 5, 10, 11] (L2 := [(2, .pointer (some ⟨g43, 0, none⟩)), (5, .int .i64 (IntKind.i64.wrap (1 + b3.1))), (10, str b5.1), (11, .pointer (some ⟨g38, 0, none⟩))]) (obs := []) (by kernel_rfl) ?_ ?_
  · intro w hs; exact trivial
  refine at_eff rfl rfl ?_
  refine eff_buildSlice (e := 9) (cells := #[str ([108, 101, 102, 116] : List UInt8), str ([114, 105, 103, 104, 116] : List UInt8), str ([107, 105, 108, 108, 45, 108, 105, 110, 101] : List UInt8), str ([98, 101, 108, 108] : List UInt8), str ([117, 112] : List UInt8)]) ([([108, 101, 102, 116] : List UInt8), ([114, 105, 103, 104, 116] : List UInt8), ([107, 105, 108, 108, 45, 108, 105, 110, 101] : List UInt8), ([98, 101, 108, 108] : List UInt8), ([117, 112] : List UInt8)] : List (List UInt8)).length rfl rfl rfl (by kernel_rfl) (fun g71 => ?_)
  have ho72 := own_lit (K := Kd.string) (e := 9) (I := J64) (xs := ([([108, 101, 102, 116] : List UInt8), ([114, 105, 103, 104, 116] : List UInt8), ([107, 105, 108, 108, 45, 108, 105, 110, 101] : List UInt8), ([98, 101, 108, 108] : List UInt8), ([117, 112] : List UInt8)] : List (List UInt8))) (css := [[str ([108, 101, 102, 116] : List UInt8)], [str ([114, 105, 103, 104, 116] : List UInt8)], [str ([107, 105, 108, 108, 45, 108, 105, 110, 101] : List UInt8)], [str ([98, 101, 108, 108] : List UInt8)], [str ([117, 112] : List UInt8)]]) (cells := #[str ([108, 101, 102, 116] : List UInt8), str ([114, 105, 103, 104, 116] : List UInt8), str ([107, 105, 108, 108, 45, 108, 105, 110, 101] : List UInt8), str ([98, 101, 108, 108] : List UInt8), str ([117, 112] : List UInt8)]) (b := g71) ⟨rfl, ⟨rfl, ⟨rfl, ⟨rfl, ⟨rfl, trivial⟩⟩⟩⟩⟩ rfl
  refine at_eff rfl rfl ?_
  refine at_freeze (k := 0) rfl rfl (fun J73 hJ74 hin75 => ?_)
  replace hle := hle.trans hJ74
  replace ho72 := ho72.mono hJ74
  replace hr70 := hr70.mono hJ74
  have hr76 := ho72.rd (ImmLe.refl _) hin75
  obtain ⟨b6, H77, H⟩ := bind_some H
  refine eff_call rfl rfl ok29 rfl rfl (show Meets Try.prog 29 ([.pointer (some ⟨g38, 0, none⟩), .slice (some ⟨g71, 0, none⟩ : Option Addr) ([([108, 101, 102, 116] : List UInt8), ([114, 105, 103, 104, 116] : List UInt8), ([107, 105, 108, 108, 45, 108, 105, 110, 101] : List UInt8), ([98, 101, 108, 108] : List UInt8), ([117, 112] : List UInt8)] : List (List UInt8)).length (([([108, 101, 102, 116] : List UInt8), ([114, 105, 103, 104, 116] : List UInt8), ([107, 105, 108, 108, 45, 108, 105, 110, 101] : List UInt8), ([98, 101, 108, 108] : List UInt8), ([117, 112] : List UInt8)] : List (List UInt8)).length)] : List Value).toArray _ [[(g38, .cells #[.slice A68 b5.2.b.length c69, .int .i64 b5.2.at_, .int .u64 b5.2.mix, .int .i64 b5.2.size] 53 (0, 0))]] _ from spec_l01Src_pick.calls H77 hr70 hr76) (Mr := ([(g43, .cells #[.int .i64 0, str ([] : List UInt8), str ([] : List UInt8)] 25 (0, 0))] :: Fs)) (List.Perm.refl _) (fun v78 J79 M80 hq81 hJ82 => ?_)
  replace hle := hle.trans hJ82
  replace hr70 := hr70.mono hJ82
  replace hr76 := hr76.mono hJ82
  obtain ⟨A83, c84, rfl, rfl, hr85⟩ := hq81
  refine at_seg [11] [12] rfl [] [2, 14] (L2 := [(2, .pointer (some ⟨g43, 0, none⟩)), (14, .agg #[.int .i64 (IntKind.i64.wrap (1 + b3.1)), str b5.1, str b6.1])]) (obs := []) (by kernel_rfl) ?_ ?_
  · intro w hs; exact trivial
  refine at_eff rfl rfl ?_
  refine eff_store 1 rfl rfl rfl rfl rfl rfl (.inl (Nat.le_refl _)) rfl (Nat.le_of_ble_eq_true (by kernel_rfl)) rfl ?_
  refine at_end ?_
  refine at_thn ?_
  refine at_ret ?_
  obtain rfl := Option.some.inj H
  refine at_done (vs := [.agg #[.int .i64 (IntKind.i64.wrap (1 + b3.1)), str b5.1, str b6.1]]) (obs := [fun w => CellsAt w ⟨g43, 0, none⟩ [.int .i64 (IntKind.i64.wrap (1 + b3.1)), str b5.1, str b6.1] 0]) (.inl rfl) [.cell 2 25] [(2, .agg #[.int .i64 (IntKind.i64.wrap (1 + b3.1)), str b5.1, str b6.1])] rfl (by kernel_rfl) (fun w hs => cellsV (k := 1) hs rfl _ 0 (Nat.le_of_ble_eq_true (by kernel_rfl)) rfl) (fun w hs => ⟨_, _, [[(g38, .cells #[.slice A83 b6.2.b.length c84, .int .i64 b6.2.at_, .int .u64 b6.2.mix, .int .i64 b6.2.size] 53 (0, 0))]], rfl, ⟨A83, c84, rfl, rfl, hr85⟩, hle, (hs.tail (perm_at (k := 1) rfl))⟩)

/-! ### loop.example/g00146/spec.l07Name: function 21 -/
def spec_l07Name_l0 : Nat → Int → (List UInt8) → Option Bool
  | 0, _, _ => none
  | k + 1, x81, p78 => if x81 < (p78.length : Int) then (if 0 ≤ x81 then (if (bt p78 x81) ≥ 97 then (if (bt p78 x81) ≤ 122 then (spec_l07Name_l0 k (IntKind.i64.wrap (x81 + 1)) p78) else (if (bt p78 x81) = 45 then (spec_l07Name_l0 k (IntKind.i64.wrap (x81 + 1)) p78) else (some false))) else (if (bt p78 x81) = 45 then (spec_l07Name_l0 k (IntKind.i64.wrap (x81 + 1)) p78) else (some false))) else none) else (some true)
def spec_l07Name (k : Nat) (p78 : List UInt8) : Option Bool := if (p78.length : Int) < 1 then (some false) else (if (p78.length : Int) > 20 then (some false) else (spec_l07Name_l0 k 0 p78))
set_option maxHeartbeats 4000000 in
set_option maxRecDepth 100000 in
theorem spec_l07Name.calls {k : Nat} {p78 : List UInt8} {r : Bool} {I0 : Imm} (H : spec_l07Name k p78 = some r) :
    Meets Try.prog 21 ([str p78] : List Value).toArray I0 [] (fun v J M => v = .bool r ∧ M = []) := by
  have hle := ImmLe.refl I0
  unfold spec_l07Name at H
  refine fn_intro (fn := Try.f21) 35 Try.func21 rfl rfl rfl (fun E Fs => ?_)
  refine at_seq ?_
  refine at_reg [] [0] (L2 := [(0, str p78)]) (obs := []) (by kernel_rfl) ?_ ?_
  · intro w hs; exact trivial
  refine at_thn ?_
  refine at_seq ?_
  refine at_seq ?_
  by_cases h79 : (p78.length : Int) < 1
  · rw [if_pos h79] at H
    refine at_reg [(3, .bool true)] [0, 11] (L2 := [(0, str p78), (11, .bool true)]) (obs := [fun _ => (.bool (decide ((p78.length : Int) < 1)) : Value) = .bool true]) (by kernel_rfl) ?_ ?_
    · intro w hs; exact congrArg Value.bool (decide_eq_true h79)
    refine at_thn ?_
    refine at_cond_t rfl (rfl) ?_
    refine at_seq ?_
    refine at_reg [] [2] (L2 := [(2, .bool false)]) (obs := []) (by kernel_rfl) ?_ ?_
    · intro w hs; exact trivial
    refine at_thn ?_
    refine at_ret ?_
    refine at_then_ret ?_
    obtain rfl := Option.some.inj H
    refine at_done (vs := [.bool false]) (obs := []) (.inl rfl) [.tmp 2] [] rfl (by kernel_rfl) (fun w hs => trivial) (fun w hs => ⟨_, _, [], rfl, ⟨rfl, rfl⟩, hle, hs⟩)
  · rw [if_neg h79] at H
    refine at_reg [(3, .bool false)] [0, 11] (L2 := [(0, str p78), (11, .bool (decide ((p78.length : Int) > 20)))]) (obs := [fun _ => (.bool (decide ((p78.length : Int) < 1)) : Value) = .bool false]) (by kernel_rfl) ?_ ?_
    · intro w hs; exact congrArg Value.bool (decide_eq_false h79)
    refine at_thn ?_
    by_cases h80 : (p78.length : Int) > 20
    · rw [if_pos h80] at H
      refine at_cond_t rfl (decide_eq_true h80) ?_
      refine at_seq ?_
      refine at_reg [] [2] (L2 := [(2, .bool false)]) (obs := []) (by kernel_rfl) ?_ ?_
      · intro w hs; exact trivial
      refine at_thn ?_
      refine at_ret ?_
      refine at_then_ret ?_
      obtain rfl := Option.some.inj H
      refine at_done (vs := [.bool false]) (obs := []) (.inl rfl) [.tmp 2] [] rfl (by kernel_rfl) (fun w hs => trivial) (fun w hs => ⟨_, _, [], rfl, ⟨rfl, rfl⟩, hle, hs⟩)
    · rw [if_neg h80] at H
      refine at_cond_f rfl (decide_eq_false h80) ?_
      refine at_skip ?_
      refine at_thn ?_
      refine at_seq ?_
      refine at_seq ?_
      refine at_reg [] [0, 3] (L2 := [(0, str p78), (3, .int .i64 0)]) (obs := []) (by kernel_rfl) ?_ ?_
      · intro w hs; exact trivial
      refine at_thn ?_
      refine at_block ?_
      refine at_keep [0, 3] (L2 := [(0, str p78), (3, .int .i64 0)]) rfl ?_
      refine at_loop (fun k82 L I Ms => ∃ (x81 : Int), L = [(0, str p78), (3, .int .i64 x81)] ∧ Ms = ([] ++ Fs) ∧ spec_l07Name_l0 k82 x81 p78 = some r ∧ ImmLe I0 I ∧ k82 ≤ k) ?_ ?_ k ⟨0, rfl, rfl, H, hle, Nat.le_refl _⟩
      · rintro L I Ms ⟨_, rfl, rfl, H, _⟩; exact no_none H
      · clear H hle
        intro k82 ih83 L I Ms h_; obtain ⟨x81, hL_, hM_, H, hle, hk84⟩ := h_; rw [hL_, hM_]; clear hL_ hM_ L Ms
        rw [spec_l07Name_l0] at H
        refine at_seq ?_
        refine at_seq ?_
        refine at_reg [] [0, 3, 15] (L2 := [(0, str p78), (3, .int .i64 x81), (15, .bool (decide (x81 < (p78.length : Int))))]) (obs := []) (by kernel_rfl) ?_ ?_
        · intro w hs; exact trivial
        refine at_thn ?_
        by_cases h85 : x81 < (p78.length : Int)
        · rw [if_pos h85] at H
          refine at_cond_t rfl (decide_eq_true h85) ?_
          refine at_skip ?_
          refine at_thn ?_
          refine at_seq ?_
          refine at_block ?_
          refine at_seq ?_
          obtain ⟨h86, H⟩ := ite_some H
          by_cases h87 : (bt p78 x81) ≥ 97
          · rw [if_pos h87] at H
            by_cases h88 : (bt p78 x81) ≤ 122
            · rw [if_pos h88] at H
              refine at_reg [(4, .bool true), (10, .bool true)] [0, 3, 34] (L2 := [(0, str p78), (3, .int .i64 x81), (34, .bool false)]) (obs := [fun _ => 0 ≤ x81 ∧ x81 < ((p78.length : Nat) : Int), fun _ => (.bool (decide ((bt p78 x81) ≥ 97)) : Value) = .bool true, fun _ => 0 ≤ x81 ∧ x81 < ((p78.length : Nat) : Int), fun _ => (.bool (decide ((bt p78 x81) ≤ 122)) : Value) = .bool true]) (by kernel_rfl) ?_ ?_
              · intro w hs; exact ⟨⟨h86, h85⟩, congrArg Value.bool (decide_eq_true h87), ⟨h86, h85⟩, congrArg Value.bool (decide_eq_true h88)⟩
              refine at_thn ?_
              refine at_cond_f rfl (rfl) ?_
              refine at_skip ?_
              refine at_in_norm ?_
              refine at_thn ?_
              refine at_reg [] [0, 3] (L2 := [(0, str p78), (3, .int .i64 (IntKind.i64.wrap (x81 + 1)))]) (obs := []) (by kernel_rfl) ?_ ?_
              · intro w hs; exact trivial
              refine at_thn ?_
              refine at_keep [0, 3] (L2 := [(0, str p78), (3, .int .i64 (IntKind.i64.wrap (x81 + 1)))]) rfl ?_
              exact ih83 _ (by omega) _ _ _ ⟨IntKind.i64.wrap (x81 + 1), rfl, rfl, H, hle, by omega⟩
            · rw [if_neg h88] at H
              refine at_reg [(4, .bool true), (10, .bool false)] [0, 3, 34] (L2 := [(0, str p78), (3, .int .i64 x81), (34, .bool (!((bt p78 x81) == 45)))]) (obs := [fun _ => 0 ≤ x81 ∧ x81 < ((p78.length : Nat) : Int), fun _ => (.bool (decide ((bt p78 x81) ≥ 97)) : Value) = .bool true, fun _ => 0 ≤ x81 ∧ x81 < ((p78.length : Nat) : Int), fun _ => (.bool (decide ((bt p78 x81) ≤ 122)) : Value) = .bool false, fun _ => 0 ≤ x81 ∧ x81 < ((p78.length : Nat) : Int)]) (by kernel_rfl) ?_ ?_
              · intro w hs; exact ⟨⟨h86, h85⟩, congrArg Value.bool (decide_eq_true h87), ⟨h86, h85⟩, congrArg Value.bool (decide_eq_false h88), ⟨h86, h85⟩⟩
              refine at_thn ?_
              by_cases h89 : (bt p78 x81) = 45
              · rw [if_pos h89] at H
                refine at_cond_f rfl (not_ff (beq_iff_eq.2 h89)) ?_
                refine at_skip ?_
                refine at_in_norm ?_
                refine at_thn ?_
                refine at_reg [] [0, 3] (L2 := [(0, str p78), (3, .int .i64 (IntKind.i64.wrap (x81 + 1)))]) (obs := []) (by kernel_rfl) ?_ ?_
                · intro w hs; exact trivial
                refine at_thn ?_
                refine at_keep [0, 3] (L2 := [(0, str p78), (3, .int .i64 (IntKind.i64.wrap (x81 + 1)))]) rfl ?_
                exact ih83 _ (by omega) _ _ _ ⟨IntKind.i64.wrap (x81 + 1), rfl, rfl, H, hle, by omega⟩
              · rw [if_neg h89] at H
                refine at_cond_t rfl (not_tt (beq_eq_false_iff_ne.2 h89)) ?_
                refine at_seq ?_
                refine at_reg [] [2] (L2 := [(2, .bool false)]) (obs := []) (by kernel_rfl) ?_ ?_
                · intro w hs; exact trivial
                refine at_thn ?_
                refine at_ret ?_
                refine at_in_ret ?_
                refine at_then_ret ?_
                refine at_then_ret ?_
                refine at_in_ret ?_
                refine at_then_ret ?_
                obtain rfl := Option.some.inj H
                refine at_done (vs := [.bool false]) (obs := []) (.inl rfl) [.tmp 2] [] rfl (by kernel_rfl) (fun w hs => trivial) (fun w hs => ⟨_, _, [], rfl, ⟨rfl, rfl⟩, hle, hs⟩)
          · rw [if_neg h87] at H
            refine at_reg [(4, .bool false)] [0, 3, 34] (L2 := [(0, str p78), (3, .int .i64 x81), (34, .bool (!((bt p78 x81) == 45)))]) (obs := [fun _ => 0 ≤ x81 ∧ x81 < ((p78.length : Nat) : Int), fun _ => (.bool (decide ((bt p78 x81) ≥ 97)) : Value) = .bool false, fun _ => 0 ≤ x81 ∧ x81 < ((p78.length : Nat) : Int)]) (by kernel_rfl) ?_ ?_
            · intro w hs; exact ⟨⟨h86, h85⟩, congrArg Value.bool (decide_eq_false h87), ⟨h86, h85⟩⟩
            refine at_thn ?_
            by_cases h90 : (bt p78 x81) = 45
            · rw [if_pos h90] at H
              refine at_cond_f rfl (not_ff (beq_iff_eq.2 h90)) ?_
              refine at_skip ?_
              refine at_in_norm ?_
              refine at_thn ?_
              refine at_reg [] [0, 3] (L2 := [(0, str p78), (3, .int .i64 (IntKind.i64.wrap (x81 + 1)))]) (obs := []) (by kernel_rfl) ?_ ?_
              · intro w hs; exact trivial
              refine at_thn ?_
              refine at_keep [0, 3] (L2 := [(0, str p78), (3, .int .i64 (IntKind.i64.wrap (x81 + 1)))]) rfl ?_
              exact ih83 _ (by omega) _ _ _ ⟨IntKind.i64.wrap (x81 + 1), rfl, rfl, H, hle, by omega⟩
            · rw [if_neg h90] at H
              refine at_cond_t rfl (not_tt (beq_eq_false_iff_ne.2 h90)) ?_
              refine at_seq ?_
              refine at_reg [] [2] (L2 := [(2, .bool false)]) (obs := []) (by kernel_rfl) ?_ ?_
              · intro w hs; exact trivial
              refine at_thn ?_
              refine at_ret ?_
              refine at_in_ret ?_
              refine at_then_ret ?_
              refine at_then_ret ?_
              refine at_in_ret ?_
              refine at_then_ret ?_
              obtain rfl := Option.some.inj H
              refine at_done (vs := [.bool false]) (obs := []) (.inl rfl) [.tmp 2] [] rfl (by kernel_rfl) (fun w hs => trivial) (fun w hs => ⟨_, _, [], rfl, ⟨rfl, rfl⟩, hle, hs⟩)
        · rw [if_neg h85] at H
          refine at_cond_f rfl (decide_eq_false h85) ?_
          refine at_exit ?_
          refine at_then_exit ?_
          refine at_then_exit ?_
          refine at_in_hit ?_
          refine at_thn ?_
          refine at_seq ?_
          refine at_reg [] [2] (L2 := [(2, .bool true)]) (obs := []) (by kernel_rfl) ?_ ?_
          · intro w hs; exact trivial
          refine at_thn ?_
          refine at_ret ?_
          obtain rfl := Option.some.inj H
          refine at_done (vs := [.bool true]) (obs := []) (.inl rfl) [.tmp 2] [] rfl (by kernel_rfl) (fun w hs => trivial) (fun w hs => ⟨_, _, [], rfl, ⟨rfl, rfl⟩, hle, hs⟩)
end Go.Proofs.Ytloojlhlfhmoeaa
