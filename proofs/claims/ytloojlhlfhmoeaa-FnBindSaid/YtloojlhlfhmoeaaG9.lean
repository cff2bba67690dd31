import Derived.Test.YtloojlhlfhmoeaaG8
namespace Go.Proofs.Ytloojlhlfhmoeaa
open Go Eng
set_option linter.unusedVariables false
set_option linter.unusedSimpArgs false
/-! ### slices.DeleteFunc[[]loop.example/g00146/impl.Key,loop.example/g00146/impl.Key]: function 24 -/
def impl_Key_24_at_25_l0 : Nat → (List T_impl_Key) → Int → Int → Int → (List UInt8) → Option ((List T_impl_Key) × Int × (List UInt8))
  | 0, _, _, _, _, _ => none
  | k + 1, x132, x137, x138, x139, x140 => if x138 < (x132.length : Int) then (if 0 ≤ x138 then ((impl_KeyDrop_1 (rdA z_impl_Key x132 x138) x139 x140).bind fun b10 => (if b10.1 = true then (impl_Key_24_at_25_l0 k x132 x137 (IntKind.i64.wrap (x138 + 1)) b10.2.1 b10.2.2) else (if 0 ≤ x137 then (if x137 < (x132.length : Int) then (impl_Key_24_at_25_l0 k (x132.set x137.toNat (rdA z_impl_Key x132 x138)) (IntKind.i64.wrap (x137 + 1)) (IntKind.i64.wrap (x138 + 1)) b10.2.1 b10.2.2) else none) else none))) else none) else (if 0 ≤ x137 then (if x137 ≤ (x132.length : Int) then (if x137 ≤ ((x132.take x137.toNat ++ List.replicate (x132.length - x137.toNat) z_impl_Key).length : Int) then (some ((x132.take x137.toNat ++ List.replicate (x132.length - x137.toNat) z_impl_Key).take x137.toNat, x139, x140)) else none) else none) else none)
def impl_Key_24_at_25 (k : Nat) (p118 : List T_impl_Key) (p124 : Int) (p126 : List UInt8) : Option ((List T_impl_Key) × Int × (List UInt8)) := (impl_Key_40_at_25 k p118 p124 p126).bind fun b9 => (if b9.1 = (-1) then (some (p118, b9.2.1, b9.2.2)) else (impl_Key_24_at_25_l0 k p118 b9.1 (IntKind.i64.wrap (b9.1 + 1)) b9.2.1 b9.2.2))
set_option maxHeartbeats 4000000 in
set_option maxRecDepth 100000 in
theorem impl_Key_24_at_25.calls {k : Nat} {p118 : List T_impl_Key} {p124 : Int} {p126 : List UInt8} {r : (List T_impl_Key) × Int × (List UInt8)} {I0 : Imm} {A119 : Option Addr} {c120 : Nat} {s121 : Seg} {g123 : Nat} {g125 : Nat} (H : impl_Key_24_at_25 k p118 p124 p126 = some r) (ho122 : Own k_impl_Key 25 I0 A119 c120 p118 s121) :
    Meets Try.prog 24 ([.slice A119 p118.length c120, .func (.func 25) #[] #[.pointer (some ⟨g123, 0, none⟩), .pointer (some ⟨g125, 0, none⟩)]] : List Value).toArray I0 [s121, [(g123, .cells #[.int .i64 p124] 2 (0, 0))], [(g125, .cells #[str p126] 9 (0, 0))]] (fun v J M => ∃ (A_1 : Option Addr) (c_2 : Nat) (s_3 : Seg), v = .slice A_1 r.1.length c_2 ∧ M = [s_3, [(g123, .cells #[.int .i64 r.2.1] 2 (0, 0))], [(g125, .cells #[str r.2.2] 9 (0, 0))]] ∧ Own k_impl_Key 25 J A_1 c_2 r.1 s_3) := by
  have hle := ImmLe.refl I0
  unfold impl_Key_24_at_25 at H
  refine fn_intro (fn := Try.f24) 42 Try.func24 rfl rfl rfl (fun E Fs => ?_)
  refine at_seq ?_
  refine at_reg [] [0, 1] (L2 := [(0, .slice A119 p118.length c120), (1, .func (.func 25) #[] #[.pointer (some ⟨g123, 0, none⟩), .pointer (some ⟨g125, 0, none⟩)])]) (obs := []) (by kernel_rfl) ?_ ?_
  · intro w hs; exact trivial
  refine at_thn ?_
  refine at_seq ?_
  refine at_ops [0, 1, 2, 3] rfl ?_
  refine at_seg [0, 1] [2, 3] rfl [] [0, 1, 8, 9] (L2 := [(0, .slice A119 p118.length c120), (1, .func (.func 25) #[] #[.pointer (some ⟨g123, 0, none⟩), .pointer (some ⟨g125, 0, none⟩)]), (8, .slice A119 p118.length c120), (9, .func (.func 25) #[] #[.pointer (some ⟨g123, 0, none⟩), .pointer (some ⟨g125, 0, none⟩)])]) (obs := []) (by kernel_rfl) ?_ ?_
  · intro w hs; exact trivial
  refine at_eff rfl rfl ?_
  obtain ⟨b9, H127, H⟩ := bind_some H
  refine eff_read rfl rfl (rv := .int .i64 b9.1) (Ms' := (s121 :: [(g123, .cells #[.int .i64 b9.2.1] 2 (0, 0))] :: [(g125, .cells #[str b9.2.2] 9 (0, 0))] :: Fs)) ok40 rfl rfl ?_ ?_
  · refine Reads.lend (k := 0) rfl (fun J128 hJ129 hin130 => ?_)
    exact Reads.of_meets (Mr := (Fs)) (show Meets Try.prog 40 ([.slice A119 p118.length c120, .func (.func 25) #[] #[.pointer (some ⟨g123, 0, none⟩), .pointer (some ⟨g125, 0, none⟩)]] : List Value).toArray J128 [[(g123, .cells #[.int .i64 p124] 2 (0, 0))], [(g125, .cells #[str p126] 9 (0, 0))]] _ from impl_Key_40_at_25.calls (I0 := J128) H127 (ho122.rd hJ129 hin130)) (List.Perm.refl _)
  refine at_seg [3] [] rfl [] [0, 1, 5] (L2 := [(0, .slice A119 p118.length c120), (1, .func (.func 25) #[] #[.pointer (some ⟨g123, 0, none⟩), .pointer (some ⟨g125, 0, none⟩)]), (5, .int .i64 b9.1)]) (obs := []) (by kernel_rfl) ?_ ?_
  · intro w hs; exact trivial
  refine at_end ?_
  refine at_thn ?_
  refine at_seq ?_
  refine at_seq ?_
  refine at_reg [] [0, 1, 5, 12] (L2 := [(0, .slice A119 p118.length c120), (1, .func (.func 25) #[] #[.pointer (some ⟨g123, 0, none⟩), .pointer (some ⟨g125, 0, none⟩)]), (5, .int .i64 b9.1), (12, .bool (b9.1 == (-1)))]) (obs := []) (by kernel_rfl) ?_ ?_
  · intro w hs; exact trivial
  refine at_thn ?_
  by_cases h131 : b9.1 = (-1)
  · rw [if_pos h131] at H
    refine at_cond_t rfl (beq_iff_eq.2 h131) ?_
    refine at_seq ?_
    refine at_reg [] [4] (L2 := [(4, .slice A119 p118.length c120)]) (obs := []) (by kernel_rfl) ?_ ?_
    · intro w hs; exact trivial
    refine at_thn ?_
    refine at_ret ?_
    refine at_then_ret ?_
    obtain rfl := Option.some.inj H
    refine at_done (vs := [.slice A119 p118.length c120]) (obs := []) (.inl rfl) [.tmp 4] [] rfl (by kernel_rfl) (fun w hs => trivial) (fun w hs => ⟨_, _, [s121, [(g123, .cells #[.int .i64 b9.2.1] 2 (0, 0))], [(g125, .cells #[str b9.2.2] 9 (0, 0))]], rfl, ⟨A119, c120, s121, rfl, rfl, ho122⟩, hle, hs⟩)
  · rw [if_neg h131] at H
    refine at_cond_f rfl (beq_eq_false_iff_ne.2 h131) ?_
    refine at_skip ?_
    refine at_thn ?_
    refine at_seq ?_
    refine at_seq ?_
    refine at_reg [] [0, 1, 5, 6] (L2 := [(0, .slice A119 p118.length c120), (1, .func (.func 25) #[] #[.pointer (some ⟨g123, 0, none⟩), .pointer (some ⟨g125, 0, none⟩)]), (5, .int .i64 b9.1), (6, .int .i64 (IntKind.i64.wrap (b9.1 + 1)))]) (obs := []) (by kernel_rfl) ?_ ?_
    · intro w hs; exact trivial
    refine at_thn ?_
    refine at_block ?_
    refine at_perm ((perm_at (k := 1) rfl).trans (((perm_at (k := 1) rfl).trans ((List.Perm.refl _).cons _)).cons _)) ?_
    refine at_keep [0, 1, 5, 6] (L2 := [(0, .slice A119 p118.length c120), (1, .func (.func 25) #[] #[.pointer (some ⟨g123, 0, none⟩), .pointer (some ⟨g125, 0, none⟩)]), (5, .int .i64 b9.1), (6, .int .i64 (IntKind.i64.wrap (b9.1 + 1)))]) rfl ?_
    refine at_loop (fun k141 L I Ms => ∃ (x132 : List T_impl_Key) (s135 : Seg) (x137 : Int) (x138 : Int) (x139 : Int) (x140 : List UInt8), L = [(0, .slice A119 x132.length c120), (1, .func (.func 25) #[] #[.pointer (some ⟨g123, 0, none⟩), .pointer (some ⟨g125, 0, none⟩)]), (5, .int .i64 x137), (6, .int .i64 x138)] ∧ Ms = ([(g123, .cells #[.int .i64 x139] 2 (0, 0))] :: [(g125, .cells #[str x140] 9 (0, 0))] :: s135 :: Fs) ∧ impl_Key_24_at_25_l0 k141 x132 x137 x138 x139 x140 = some r ∧ ImmLe I0 I ∧ k141 ≤ k ∧ Own k_impl_Key 25 I A119 c120 x132 s135) ?_ ?_ k ⟨p118, s121, b9.1, IntKind.i64.wrap (b9.1 + 1), b9.2.1, b9.2.2, rfl, rfl, H, hle, Nat.le_refl _, ho122⟩
    · rintro L I Ms ⟨_, _, _, _, _, _, rfl, rfl, H, _⟩; exact no_none H
    · clear H hle ho122
      intro k141 ih142 L I Ms h_; obtain ⟨x132, s135, x137, x138, x139, x140, hL_, hM_, H, hle, hk143, ho136⟩ := h_; rw [hL_, hM_]; clear hL_ hM_ L Ms
      rw [impl_Key_24_at_25_l0] at H
      refine at_seq ?_
      refine at_seq ?_
      refine at_reg [] [0, 1, 5, 6, 19] (L2 := [(0, .slice A119 x132.length c120), (1, .func (.func 25) #[] #[.pointer (some ⟨g123, 0, none⟩), .pointer (some ⟨g125, 0, none⟩)]), (5, .int .i64 x137), (6, .int .i64 x138), (19, .bool (decide (x138 < (x132.length : Int))))]) (obs := []) (by kernel_rfl) ?_ ?_
      · intro w hs; exact trivial
      refine at_thn ?_
      by_cases h144 : x138 < (x132.length : Int)
      · rw [if_pos h144] at H
        refine at_cond_t rfl (decide_eq_true h144) ?_
        refine at_skip ?_
        refine at_thn ?_
        refine at_seq ?_
        refine at_block ?_
        refine at_seq ?_
        refine at_ops [0, 1, 2, 3, 4, 5] rfl ?_
        obtain ⟨h145, H⟩ := ite_some H
        obtain ⟨cs147, hz148, hc146⟩ := ho136.elem z_impl_Key x138 h145 h144
        obtain rfl := hz148
        refine at_seg [0, 1, 2, 3] [4, 5] rfl [(3, .agg #[.int .i64 ((rdA z_impl_Key x132 x138).Map), str ((rdA z_impl_Key x132 x138).Keys), str ((rdA z_impl_Key x132 x138).Name)])] [0, 1, 5, 6, 25] (L2 := [(0, .slice A119 x132.length c120), (1, .func (.func 25) #[] #[.pointer (some ⟨g123, 0, none⟩), .pointer (some ⟨g125, 0, none⟩)]), (5, .int .i64 x137), (6, .int .i64 x138), (25, .agg #[.int .i64 ((rdA z_impl_Key x132 x138).Map), str ((rdA z_impl_Key x132 x138).Keys), str ((rdA z_impl_Key x132 x138).Name)])]) (obs := [fun _ => A119.isSome = true ∧ 0 ≤ x138 ∧ x138 < ((x132.length : Nat) : Int), fun w => CellsAt w ((A119.getD ad0).add (x138.toNat * 3)) [.int .i64 ((rdA z_impl_Key x132 x138).Map), str ((rdA z_impl_Key x132 x138).Keys), str ((rdA z_impl_Key x132 x138).Name)] 0]) (by kernel_rfl) ?_ ?_
        · intro w hs; exact ⟨⟨ho136.ne x138 h145 h144, h145, h144⟩, ⟨hc146 0 _ rfl hs (k := 2) rfl, hc146 1 _ rfl hs (k := 2) rfl, hc146 2 _ rfl hs (k := 2) rfl, trivial⟩⟩
        refine at_eff rfl rfl ?_
        obtain ⟨i_, hi_, hz_, _, _⟩ := info25
        refine eff_alloc rfl rfl hi_ hz_ #[.int .i64 0, str ([] : List UInt8), str ([] : List UInt8)] rfl (fun g149 => ?_)
        refine at_eff rfl rfl ?_
        refine eff_store 0 rfl rfl rfl rfl rfl rfl (.inl (Nat.le_refl _)) rfl (Nat.le_of_ble_eq_true (by kernel_rfl)) rfl ?_
        refine at_end ?_
        refine at_thn ?_
        refine at_seq ?_
        refine at_ops [0, 1, 2, 3] rfl ?_
        refine at_seg [0, 1] [2, 3] rfl [(1, .agg #[.int .i64 ((rdA z_impl_Key x132 x138).Map), str ((rdA z_impl_Key x132 x138).Keys), str ((rdA z_impl_Key x132 x138).Name)])] [0, 1, 5, 6, 7, 26, 27] (L2 := [(0, .slice A119 x132.length c120), (1, .func (.func 25) #[] #[.pointer (some ⟨g123, 0, none⟩), .pointer (some ⟨g125, 0, none⟩)]), (5, .int .i64 x137), (6, .int .i64 x138), (7, .pointer (some ⟨g149, 0, none⟩)), (26, .func (.func 25) #[] #[.pointer (some ⟨g123, 0, none⟩), .pointer (some ⟨g125, 0, none⟩)]), (27, .agg #[.int .i64 ((rdA z_impl_Key x132 x138).Map), str ((rdA z_impl_Key x132 x138).Keys), str ((rdA z_impl_Key x132 x138).Name)])]) (obs := [fun w => CellsAt w ⟨g149, 0, none⟩ [.int .i64 ((rdA z_impl_Key x132 x138).Map), str ((rdA z_impl_Key x132 x138).Keys), str ((rdA z_impl_Key x132 x138).Name)] 0]) (by kernel_rfl) ?_ ?_
        · intro w hs; exact cellsV (k := 0) hs rfl _ 0 (Nat.le_of_ble_eq_true (by kernel_rfl)) rfl
        refine at_eff rfl rfl ?_
        obtain ⟨b10, H150, H⟩ := bind_some H
        refine eff_callv (first := []) (captured := [.pointer (some ⟨g123, 0, none⟩), .pointer (some ⟨g125, 0, none⟩)]) rfl rfl rfl ok25 rfl rfl (impl_KeyDrop_1.calls H150) (Mr := ([(g149, .cells #[.int .i64 ((rdA z_impl_Key x132 x138).Map), str ((rdA z_impl_Key x132 x138).Keys), str ((rdA z_impl_Key x132 x138).Name)] 25 (0, 0))] :: s135 :: Fs)) ((perm_at (k := 1) rfl).trans (((perm_at (k := 1) rfl).trans ((List.Perm.refl _).cons _)).cons _)) (fun v151 J152 M153 hq154 hJ155 => ?_)
        replace hle := hle.trans hJ155
        replace ho136 := ho136.mono hJ155
        obtain ⟨rfl, rfl⟩ := hq154
        refine at_seg [3] [] rfl [] [0, 1, 5, 6, 7, 29] (L2 := [(0, .slice A119 x132.length c120), (1, .func (.func 25) #[] #[.pointer (some ⟨g123, 0, none⟩), .pointer (some ⟨g125, 0, none⟩)]), (5, .int .i64 x137), (6, .int .i64 x138), (7, .pointer (some ⟨g149, 0, none⟩)), (29, .bool (!b10.1))]) (obs := []) (by kernel_rfl) ?_ ?_
        · intro w hs; exact trivial
        refine at_end ?_
        refine at_thn ?_
        by_cases h156 : b10.1 = true
        · rw [if_pos h156] at H
          refine at_cond_f rfl (not_ff (h156)) ?_
          refine at_skip ?_
          refine at_in_norm ?_
          refine at_thn ?_
          refine at_reg [] [0, 1, 5, 6] (L2 := [(0, .slice A119 x132.length c120), (1, .func (.func 25) #[] #[.pointer (some ⟨g123, 0, none⟩), .pointer (some ⟨g125, 0, none⟩)]), (5, .int .i64 x137), (6, .int .i64 (IntKind.i64.wrap (x138 + 1)))]) (obs := []) (by kernel_rfl) ?_ ?_
          · intro w hs; exact trivial
          refine at_thn ?_
          refine at_drop (k := 2) rfl rfl ?_
          refine at_keep [0, 1, 5, 6] (L2 := [(0, .slice A119 x132.length c120), (1, .func (.func 25) #[] #[.pointer (some ⟨g123, 0, none⟩), .pointer (some ⟨g125, 0, none⟩)]), (5, .int .i64 x137), (6, .int .i64 (IntKind.i64.wrap (x138 + 1)))]) rfl ?_
          exact ih142 _ (by omega) _ _ _ ⟨x132, s135, x137, IntKind.i64.wrap (x138 + 1), b10.2.1, b10.2.2, rfl, rfl, H, hle, by omega, ho136⟩
        · rw [if_neg h156] at H
          refine at_cond_t rfl (not_tt (ff_of h156)) ?_
          refine at_seq ?_
          refine at_ops [0, 1, 2, 3, 4] rfl ?_
          obtain ⟨h157, H⟩ := ite_some H
          obtain ⟨h158, H⟩ := ite_some H
          refine at_seg [0, 1, 2, 3] [4] rfl [(2, .agg #[.int .i64 ((rdA z_impl_Key x132 x138).Map), str ((rdA z_impl_Key x132 x138).Keys), str ((rdA z_impl_Key x132 x138).Name)])] [0, 1, 5, 6, 32, 33] (L2 := [(0, .slice A119 x132.length c120), (1, .func (.func 25) #[] #[.pointer (some ⟨g123, 0, none⟩), .pointer (some ⟨g125, 0, none⟩)]), (5, .int .i64 x137), (6, .int .i64 x138), (32, .agg #[.int .i64 ((rdA z_impl_Key x132 x138).Map), str ((rdA z_impl_Key x132 x138).Keys), str ((rdA z_impl_Key x132 x138).Name)]), (33, .pointer (some ((A119.getD ad0).add (x137.toNat * 3))))]) (obs := [fun w => CellsAt w ⟨g149, 0, none⟩ [.int .i64 ((rdA z_impl_Key x132 x138).Map), str ((rdA z_impl_Key x132 x138).Keys), str ((rdA z_impl_Key x132 x138).Name)] 0, fun _ => A119.isSome = true ∧ 0 ≤ x137 ∧ x137 < ((x132.length : Nat) : Int)]) (by kernel_rfl) ?_ ?_
          · intro w hs; exact ⟨cellsV (k := 2) hs rfl _ 0 (Nat.le_of_ble_eq_true (by kernel_rfl)) rfl, ⟨ho136.ne x137 h157 h158, h157, h158⟩⟩
          refine at_eff rfl rfl ?_
          refine eff_storeOwn (K := k_impl_Key) (u := (rdA z_impl_Key x132 x138)) 3 0 z_impl_Key x137 rfl rfl rfl rfl ho136 rfl h157 h158 (add0 _).symm rfl (Nat.le_of_ble_eq_true (by kernel_rfl)) rfl (by rintro cs_ rfl; exact rfl) (fun s159 ho160 => ?_)
          refine at_eqL2 (L1 := [(0, .slice A119 x132.length c120), (1, .func (.func 25) #[] #[.pointer (some ⟨g123, 0, none⟩), .pointer (some ⟨g125, 0, none⟩)]), (5, .int .i64 x137), (6, .int .i64 x138), (32, .agg #[.int .i64 ((rdA z_impl_Key x132 x138).Map), str ((rdA z_impl_Key x132 x138).Keys), str ((rdA z_impl_Key x132 x138).Name)]), (33, .pointer (some ((A119.getD ad0).add (x137.toNat * 3))))]) (L2 := [(0, .slice A119 (x132.set x137.toNat (rdA z_impl_Key x132 x138)).length c120), (1, .func (.func 25) #[] #[.pointer (some ⟨g123, 0, none⟩), .pointer (some ⟨g125, 0, none⟩)]), (5, .int .i64 x137), (6, .int .i64 x138), (32, .agg #[.int .i64 ((rdA z_impl_Key x132 x138).Map), str ((rdA z_impl_Key x132 x138).Keys), str ((rdA z_impl_Key x132 x138).Name)]), (33, .pointer (some ((A119.getD ad0).add (x137.toNat * 3))))]) rfl (by simp only [List.length_set]) ?_
          refine at_end ?_
          refine at_thn ?_
          refine at_reg [] [0, 1, 5, 6] (L2 := [(0, .slice A119 (x132.set x137.toNat (rdA z_impl_Key x132 x138)).length c120), (1, .func (.func 25) #[] #[.pointer (some ⟨g123, 0, none⟩), .pointer (some ⟨g125, 0, none⟩)]), (5, .int .i64 (IntKind.i64.wrap (x137 + 1))), (6, .int .i64 x138)]) (obs := []) (by kernel_rfl) ?_ ?_
          · intro w hs; exact trivial
          refine at_in_norm ?_
          refine at_thn ?_
          refine at_reg [] [0, 1, 5, 6] (L2 := [(0, .slice A119 (x132.set x137.toNat (rdA z_impl_Key x132 x138)).length c120), (1, .func (.func 25) #[] #[.pointer (some ⟨g123, 0, none⟩), .pointer (some ⟨g125, 0, none⟩)]), (5, .int .i64 (IntKind.i64.wrap (x137 + 1))), (6, .int .i64 (IntKind.i64.wrap (x138 + 1)))]) (obs := []) (by kernel_rfl) ?_ ?_
          · intro w hs; exact trivial
          refine at_thn ?_
          refine at_drop (k := 2) rfl rfl ?_
          refine at_keep [0, 1, 5, 6] (L2 := [(0, .slice A119 (x132.set x137.toNat (rdA z_impl_Key x132 x138)).length c120), (1, .func (.func 25) #[] #[.pointer (some ⟨g123, 0, none⟩), .pointer (some ⟨g125, 0, none⟩)]), (5, .int .i64 (IntKind.i64.wrap (x137 + 1))), (6, .int .i64 (IntKind.i64.wrap (x138 + 1)))]) rfl ?_
          exact ih142 _ (by omega) _ _ _ ⟨x132.set x137.toNat (rdA z_impl_Key x132 x138), s159, IntKind.i64.wrap (x137 + 1), IntKind.i64.wrap (x138 + 1), b10.2.1, b10.2.2, rfl, rfl, H, hle, by omega, ho160⟩
      · rw [if_neg h144] at H
        refine at_cond_f rfl (decide_eq_false h144) ?_
        refine at_exit ?_
        refine at_then_exit ?_
        refine at_then_exit ?_
        refine at_in_hit ?_
        refine at_thn ?_
        refine at_seq ?_
        refine at_ops [0, 1, 2, 3] rfl ?_
        obtain ⟨h161, H⟩ := ite_some H
        obtain ⟨h162, H⟩ := ite_some H
        refine at_seg [0, 1, 2] [3] rfl [] [0, 5, 38] (L2 := [(0, .slice A119 x132.length c120), (5, .int .i64 x137), (38, cutV A119 c120 3 x137.toNat x132.length)]) (obs := [fun _ => 0 ≤ x137 ∧ x137 ≤ (x132.length : Int) ∧ (x132.length : Int) ≤ ((c120 : Nat) : Int)]) (by kernel_rfl) ?_ ?_
        · intro w hs; exact ⟨h161, h162, Int.le_trans (Int.le_refl _) (Int.ofNat_le.2 ho136.cap)⟩
        refine at_eff rfl rfl ?_
        obtain ⟨i_, hi_, hz_, hs_, hb_⟩ := info25
        refine eff_clear (K := k_impl_Key) (d := z_impl_Key) (xs := x132) 2 rfl rfl rfl rfl rfl und23 hi_ hz_ hs_ (fun _ => rfl) (by omega) rfl ho136 rfl (fun s163 ho164 => ?_)
        have hl_ : (x132.take x137.toNat ++ List.replicate (x132.length - x137.toNat) z_impl_Key).length = x132.length := by simp only [List.length_append, List.length_take, List.length_replicate]; omega
        refine at_keep [0, 5] (L2 := [(0, .slice A119 x132.length c120), (5, .int .i64 x137)]) rfl ?_
        refine at_eqL2 (L1 := [(0, .slice A119 x132.length c120), (5, .int .i64 x137)]) (L2 := [(0, .slice A119 (x132.take x137.toNat ++ List.replicate (x132.length - x137.toNat) z_impl_Key).length c120), (5, .int .i64 x137)]) rfl (by rw [hl_]) ?_
        refine at_end ?_
        refine at_thn ?_
        refine at_seq ?_
        obtain ⟨h165, H⟩ := ite_some H
        have ho166 := ho164.take x137.toNat (nat_le h161 h165)
        refine at_reg [(2, .slice A119 ((x132.take x137.toNat ++ List.replicate (x132.length - x137.toNat) z_impl_Key).take x137.toNat).length c120)] [4] (L2 := [(4, .slice A119 ((x132.take x137.toNat ++ List.replicate (x132.length - x137.toNat) z_impl_Key).take x137.toNat).length c120)]) (obs := [fun _ => 0 ≤ (0 : Int) ∧ (0 : Int) ≤ x137 ∧ x137 ≤ ((c120 : Nat) : Int), fun _ => cutV A119 c120 3 0 x137.toNat = .slice A119 ((x132.take x137.toNat ++ List.replicate (x132.length - x137.toNat) z_impl_Key).take x137.toNat).length c120]) (by kernel_rfl) ?_ ?_
        · intro w hs; exact ⟨⟨Int.le_refl _, h161, Int.le_trans h165 (Int.ofNat_le.2 ho164.cap)⟩, cut_own ho164 (nat_le h161 h165)⟩
        refine at_thn ?_
        refine at_ret ?_
        obtain rfl := Option.some.inj H
        refine at_perm ((perm_at (k := 2) rfl).trans ((List.Perm.refl _).cons _)) ?_
        refine at_done (vs := [.slice A119 ((x132.take x137.toNat ++ List.replicate (x132.length - x137.toNat) z_impl_Key).take x137.toNat).length c120]) (obs := []) (.inl rfl) [.tmp 4] [] rfl (by kernel_rfl) (fun w hs => trivial) (fun w hs => ⟨_, _, [s163, [(g123, .cells #[.int .i64 x139] 2 (0, 0))], [(g125, .cells #[str x140] 9 (0, 0))]], rfl, ⟨A119, c120, s163, rfl, rfl, ho166⟩, hle, hs⟩)

/-! ### loop.example/g00146/impl.KeyDrop: function 9 -/
def impl_KeyDrop (k : Nat) (p71 : List T_impl_Key) (p75 : Int) (p76 : List UInt8) : Option (List T_impl_Key) := (impl_isMany (p71.length : Int)).bind fun b5 => (if b5 = true then (some ([] : List T_impl_Key)) else ((impl_isLong k ([p76] : List (List UInt8))).bind fun b6 => (if b6 = true then (some ([] : List T_impl_Key)) else ((impl_Key p71).bind fun b7 => ((impl_KeysRight k p71).bind fun b8 => (if b8 = true then ((impl_Key_24_at_25 k b7 p75 p76).bind fun b9 => (some b9.1)) else (some b7)))))))
set_option maxHeartbeats 4000000 in
set_option maxRecDepth 100000 in
theorem impl_KeyDrop.calls {k : Nat} {p71 : List T_impl_Key} {p75 : Int} {p76 : List UInt8} {r : (List T_impl_Key)} {I0 : Imm} {A72 : Option Addr} {c73 : Nat} (H : impl_KeyDrop k p71 p75 p76 = some r) (hr74 : Rd k_impl_Key I0 A72 c73 p71) :
    Meets Try.prog 9 ([.slice A72 p71.length c73, .int .i64 p75, str p76] : List Value).toArray I0 [] (fun v J M => ∃ (A_1 : Option Addr) (c_2 : Nat) (s_3 : Seg), v = .slice A_1 r.length c_2 ∧ M = [s_3] ∧ Own k_impl_Key 25 J A_1 c_2 r s_3) := by
  have hle := ImmLe.refl I0
  unfold impl_KeyDrop at H
  refine fn_intro (fn := Try.f9) 25 Try.func9 rfl rfl rfl (fun E Fs => ?_)
  refine at_seq ?_
  refine at_ops [0, 1, 2] rfl ?_
  refine at_eff rfl rfl ?_
  refine eff_box rfl rfl rfl #[.int .i64 p75] rfl (fun g77 => ?_)
  refine at_eff rfl rfl ?_
  refine eff_box rfl rfl rfl #[str p76] rfl (fun g78 => ?_)
  refine at_seg [2] [] rfl [] [0, 4, 5] (L2 := [(0, .slice A72 p71.length c73), (4, .pointer (some ⟨g77, 0, none⟩)), (5, .pointer (some ⟨g78, 0, none⟩))]) (obs := []) (by kernel_rfl) ?_ ?_
  · intro w hs; exact trivial
  refine at_end ?_
  refine at_thn ?_
  refine at_seq ?_
  refine at_seq ?_
  refine at_ops [0, 1, 2, 3, 4, 5, 6, 7] rfl ?_
  refine at_seg [0, 1] [2, 3, 4, 5, 6, 7] rfl [] [0, 4, 5, 9] (L2 := [(0, .slice A72 p71.length c73), (4, .pointer (some ⟨g77, 0, none⟩)), (5, .pointer (some ⟨g78, 0, none⟩)), (9, .int .i64 (p71.length : Int))]) (obs := []) (by kernel_rfl) ?_ ?_
  · intro w hs; exact trivial
  refine at_eff rfl rfl ?_
  obtain ⟨b5, H79, H⟩ := bind_some H
  have hm_ := impl_isMany.calls (I0 := I0) H79
  refine eff_call rfl rfl ok15 rfl rfl (show Meets Try.prog 15 ([.int .i64 (p71.length : Int)] : List Value).toArray _ [] _ from hm_) (Mr := ([(g78, .cells #[str p76] 9 (0, 0))] :: [(g77, .cells #[.int .i64 p75] 2 (0, 0))] :: Fs)) (List.Perm.refl _) (fun v80 J81 M82 hq83 hJ84 => ?_)
  replace hle := hle.trans hJ84
  replace hr74 := hr74.mono hJ84
  obtain ⟨rfl, rfl⟩ := hq83
  by_cases h85 : b5 = true
  · rw [if_pos h85] at H
    refine at_seg [3, 4] [5, 6, 7] rfl [(3, .bool true)] [0, 4, 5, 11, 12] (L2 := [(0, .slice A72 p71.length c73), (4, .pointer (some ⟨g77, 0, none⟩)), (5, .pointer (some ⟨g78, 0, none⟩)), (11, .bool true), (12, undef)]) (obs := [fun _ => (.bool b5 : Value) = .bool true]) (by kernel_rfl) ?_ ?_
    · intro w hs; exact congrArg Value.bool (h85)
    refine at_seg [5] [6, 7] rfl [] [0, 4, 5, 11, 13] (L2 := [(0, .slice A72 p71.length c73), (4, .pointer (some ⟨g77, 0, none⟩)), (5, .pointer (some ⟨g78, 0, none⟩)), (11, .bool true), (13, undef)]) (obs := []) (by kernel_rfl) ?_ ?_
    · intro w hs; exact trivial
    refine at_seg [6, 7] [] rfl [] [0, 4, 5, 15] (L2 := [(0, .slice A72 p71.length c73), (4, .pointer (some ⟨g77, 0, none⟩)), (5, .pointer (some ⟨g78, 0, none⟩)), (15, .bool true)]) (obs := []) (by kernel_rfl) ?_ ?_
    · intro w hs; exact trivial
    refine at_end ?_
    refine at_thn ?_
    refine at_cond_t rfl (rfl) ?_
    refine at_seq ?_
    refine at_reg [] [6] (L2 := [(6, .slice none ([] : List T_impl_Key).length 0)]) (obs := []) (by kernel_rfl) ?_ ?_
    · intro w hs; exact trivial
    refine at_thn ?_
    refine at_ret ?_
    refine at_then_ret ?_
    refine at_nilseg ?_
    have ho86 := Own.nil k_impl_Key 25 J81
    obtain rfl := Option.some.inj H
    refine at_drop (k := 1) rfl rfl ?_
    refine at_drop (k := 1) rfl rfl ?_
    refine at_done (vs := [.slice none ([] : List T_impl_Key).length 0]) (obs := []) (.inl rfl) [.tmp 6] [] rfl (by kernel_rfl) (fun w hs => trivial) (fun w hs => ⟨_, _, [[]], rfl, ⟨none, 0, [], rfl, rfl, ho86⟩, hle, hs⟩)
  · rw [if_neg h85] at H
    refine at_seg [3, 4] [5, 6, 7] rfl [(3, .bool false), (4, str p76)] [0, 4, 5, 11, 12] (L2 := [(0, .slice A72 p71.length c73), (4, .pointer (some ⟨g77, 0, none⟩)), (5, .pointer (some ⟨g78, 0, none⟩)), (11, .bool false), (12, str p76)]) (obs := [fun _ => (.bool b5 : Value) = .bool false, fun w => w.cell? ⟨g78, 0, none⟩ = some (str p76)]) (by kernel_rfl) ?_ ?_
    · intro w hs; exact ⟨congrArg Value.bool (ff_of h85), hs.var (k := 0) rfl 0 rfl⟩
    refine at_eff rfl rfl ?_
    refine eff_buildSlice (e := 9) (cells := #[str p76]) ([p76] : List (List UInt8)).length rfl rfl rfl (by kernel_rfl) (fun g87 => ?_)
    have ho88 := own_lit (K := Kd.string) (e := 9) (I := J81) (xs := ([p76] : List (List UInt8))) (css := [[str p76]]) (cells := #[str p76]) (b := g87) ⟨rfl, trivial⟩ rfl
    refine at_eff rfl rfl ?_
    obtain ⟨b6, H89, H⟩ := bind_some H
    refine eff_read rfl rfl (rv := .bool b6) (Ms' := ([(g87, .cells #[str p76] 9 (0, 0))] :: [(g78, .cells #[str p76] 9 (0, 0))] :: [(g77, .cells #[.int .i64 p75] 2 (0, 0))] :: Fs)) ok22 rfl rfl ?_ ?_
    · refine Reads.lend (k := 0) rfl (fun J90 hJ91 hin92 => ?_)
      exact Reads.of_meets (Mr := ([(g78, .cells #[str p76] 9 (0, 0))] :: [(g77, .cells #[.int .i64 p75] 2 (0, 0))] :: Fs)) (show Meets Try.prog 22 ([.slice (some ⟨g87, 0, none⟩ : Option Addr) ([p76] : List (List UInt8)).length (([p76] : List (List UInt8)).length)] : List Value).toArray J90 [] _ from impl_isLong.calls (I0 := J90) H89 (ho88.rd hJ91 hin92)) (List.Perm.refl _)
    refine at_seg [7] [] rfl [] [0, 4, 5, 15] (L2 := [(0, .slice A72 p71.length c73), (4, .pointer (some ⟨g77, 0, none⟩)), (5, .pointer (some ⟨g78, 0, none⟩)), (15, .bool b6)]) (obs := []) (by kernel_rfl) ?_ ?_
    · intro w hs; exact trivial
    refine at_end ?_
    refine at_thn ?_
    by_cases h93 : b6 = true
    · rw [if_pos h93] at H
      refine at_cond_t rfl (h93) ?_
      refine at_seq ?_
      refine at_reg [] [6] (L2 := [(6, .slice none ([] : List T_impl_Key).length 0)]) (obs := []) (by kernel_rfl) ?_ ?_
      · intro w hs; exact trivial
      refine at_thn ?_
      refine at_ret ?_
      refine at_then_ret ?_
      refine at_nilseg ?_
      have ho94 := Own.nil k_impl_Key 25 J81
      obtain rfl := Option.some.inj H
      refine at_drop (k := 1) rfl rfl ?_
      refine at_drop (k := 1) rfl rfl ?_
      refine at_drop (k := 1) rfl rfl ?_
      refine at_done (vs := [.slice none ([] : List T_impl_Key).length 0]) (obs := []) (.inl rfl) [.tmp 6] [] rfl (by kernel_rfl) (fun w hs => trivial) (fun w hs => ⟨_, _, [[]], rfl, ⟨none, 0, [], rfl, rfl, ho94⟩, hle, hs⟩)
    · rw [if_neg h93] at H
      refine at_cond_f rfl (ff_of h93) ?_
      refine at_skip ?_
      refine at_thn ?_
      refine at_seq ?_
      refine at_ops [0, 1, 2] rfl ?_
      refine at_seg [0] [1, 2] rfl [] [0, 4, 5, 16] (L2 := [(0, .slice A72 p71.length c73), (4, .pointer (some ⟨g77, 0, none⟩)), (5, .pointer (some ⟨g78, 0, none⟩)), (16, .slice A72 p71.length c73)]) (obs := []) (by kernel_rfl) ?_ ?_
      · intro w hs; exact trivial
      refine at_eff rfl rfl ?_
      obtain ⟨b7, H95, H⟩ := bind_some H
      have hm_ := impl_Key.calls (I0 := J81) H95 hr74
      refine eff_call rfl rfl ok16 rfl rfl (show Meets Try.prog 16 ([.slice A72 p71.length c73] : List Value).toArray _ [] _ from hm_) (Mr := ([(g87, .cells #[str p76] 9 (0, 0))] :: [(g78, .cells #[str p76] 9 (0, 0))] :: [(g77, .cells #[.int .i64 p75] 2 (0, 0))] :: Fs)) (List.Perm.refl _) (fun v96 J97 M98 hq99 hJ100 => ?_)
      replace hle := hle.trans hJ100
      replace hr74 := hr74.mono hJ100
      obtain ⟨A101, c102, s103, rfl, rfl, ho104⟩ := hq99
      refine at_seg [2] [] rfl [] [0, 4, 5, 7] (L2 := [(0, .slice A72 p71.length c73), (4, .pointer (some ⟨g77, 0, none⟩)), (5, .pointer (some ⟨g78, 0, none⟩)), (7, .slice A101 b7.length c102)]) (obs := []) (by kernel_rfl) ?_ ?_
      · intro w hs; exact trivial
      refine at_end ?_
      refine at_thn ?_
      refine at_seq ?_
      refine at_seq ?_
      refine at_ops [0, 1, 2] rfl ?_
      refine at_seg [0] [1, 2] rfl [] [4, 5, 7, 18] (L2 := [(4, .pointer (some ⟨g77, 0, none⟩)), (5, .pointer (some ⟨g78, 0, none⟩)), (7, .slice A101 b7.length c102), (18, .slice A72 p71.length c73)]) (obs := []) (by kernel_rfl) ?_ ?_
      · intro w hs; exact trivial
      refine at_eff rfl rfl ?_
      obtain ⟨b8, H105, H⟩ := bind_some H
      have hm_ := impl_KeysRight.calls (I0 := J97) H105 hr74
      refine eff_call rfl rfl ok10 rfl rfl (show Meets Try.prog 10 ([.slice A72 p71.length c73] : List Value).toArray _ [] _ from hm_) (Mr := (s103 :: [(g87, .cells #[str p76] 9 (0, 0))] :: [(g78, .cells #[str p76] 9 (0, 0))] :: [(g77, .cells #[.int .i64 p75] 2 (0, 0))] :: Fs)) (List.Perm.refl _) (fun v106 J107 M108 hq109 hJ110 => ?_)
      replace hle := hle.trans hJ110
      replace ho104 := ho104.mono hJ110
      replace hr74 := hr74.mono hJ110
      obtain ⟨rfl, rfl⟩ := hq109
      refine at_seg [2] [] rfl [] [4, 5, 7, 20] (L2 := [(4, .pointer (some ⟨g77, 0, none⟩)), (5, .pointer (some ⟨g78, 0, none⟩)), (7, .slice A101 b7.length c102), (20, .bool (!b8))]) (obs := []) (by kernel_rfl) ?_ ?_
      · intro w hs; exact trivial
      refine at_end ?_
      refine at_thn ?_
      by_cases h111 : b8 = true
      · rw [if_pos h111] at H
        refine at_cond_f rfl (not_ff (h111)) ?_
        refine at_skip ?_
        refine at_thn ?_
        refine at_seq ?_
        refine at_ops [0, 1, 2, 3] rfl ?_
        refine at_seg [0, 1] [2, 3] rfl [] [22, 23] (L2 := [(22, .slice A101 b7.length c102), (23, .func (.func 25) #[] #[.pointer (some ⟨g77, 0, none⟩), .pointer (some ⟨g78, 0, none⟩)])]) (obs := []) (by kernel_rfl) ?_ ?_
        · intro w hs; exact trivial
        refine at_eff rfl rfl ?_
        obtain ⟨b9, H112, H⟩ := bind_some H
        refine eff_call rfl rfl ok24 rfl rfl (show Meets Try.prog 24 ([.slice A101 b7.length c102, .func (.func 25) #[] #[.pointer (some ⟨g77, 0, none⟩), .pointer (some ⟨g78, 0, none⟩)]] : List Value).toArray _ [s103, [(g77, .cells #[.int .i64 p75] 2 (0, 0))], [(g78, .cells #[str p76] 9 (0, 0))]] _ from impl_Key_24_at_25.calls H112 ho104) (Mr := ([(g87, .cells #[str p76] 9 (0, 0))] :: Fs)) (((perm_at (k := 2) rfl).trans (((perm_at (k := 1) rfl).trans ((List.Perm.refl _).cons _)).cons _)).cons _) (fun v113 J114 M115 hq116 hJ117 => ?_)
        replace hle := hle.trans hJ117
        obtain ⟨A118, c119, s120, rfl, rfl, ho121⟩ := hq116
        refine at_seg [3] [] rfl [] [6] (L2 := [(6, .slice A118 b9.1.length c119)]) (obs := []) (by kernel_rfl) ?_ ?_
        · intro w hs; exact trivial
        refine at_end ?_
        refine at_thn ?_
        refine at_ret ?_
        obtain rfl := Option.some.inj H
        refine at_drop (k := 1) rfl rfl ?_
        refine at_drop (k := 1) rfl rfl ?_
        refine at_drop (k := 1) rfl rfl ?_
        refine at_done (vs := [.slice A118 b9.1.length c119]) (obs := []) (.inl rfl) [.tmp 6] [] rfl (by kernel_rfl) (fun w hs => trivial) (fun w hs => ⟨_, _, [s120], rfl, ⟨A118, c119, s120, rfl, rfl, ho121⟩, hle, hs⟩)
      · rw [if_neg h111] at H
        refine at_cond_t rfl (not_tt (ff_of h111)) ?_
        refine at_seq ?_
        refine at_reg [] [6] (L2 := [(6, .slice A101 b7.length c102)]) (obs := []) (by kernel_rfl) ?_ ?_
        · intro w hs; exact trivial
        refine at_thn ?_
        refine at_ret ?_
        refine at_then_ret ?_
        obtain rfl := Option.some.inj H
        refine at_drop (k := 1) rfl rfl ?_
        refine at_drop (k := 1) rfl rfl ?_
        refine at_drop (k := 1) rfl rfl ?_
        refine at_done (vs := [.slice A101 b7.length c102]) (obs := []) (.inl rfl) [.tmp 6] [] rfl (by kernel_rfl) (fun w hs => trivial) (fun w hs => ⟨_, _, [s103], rfl, ⟨A101, c102, s103, rfl, rfl, ho104⟩, hle, hs⟩)
end Go.Proofs.Ytloojlhlfhmoeaa
