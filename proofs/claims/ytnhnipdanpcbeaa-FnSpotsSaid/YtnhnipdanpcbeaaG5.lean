import Derived.Test.YtnhnipdanpcbeaaG4
namespace Go.Proofs.Ytnhnipdanpcbeaa
open Go Eng
set_option linter.unusedVariables false
set_option linter.unusedSimpArgs false
/-! ### loop.example/g00146/impl.shown: function 65 -/
def impl_shown (p92 : Int) : Option (List Int) := (impl_isControl p92).bind fun b5 => (if b5 = true then (some ([94, bitsV .xor .i64 p92 64] : List Int)) else (some ([p92] : List Int)))
set_option maxHeartbeats 4000000 in
set_option maxRecDepth 100000 in
theorem impl_shown.calls {p92 : Int} {r : (List Int)} {I0 : Imm} (H : impl_shown p92 = some r) :
    Meets Try.prog 65 ([.int .i64 p92] : List Value).toArray I0 [] (fun v J M => ∃ (A_1 : Option Addr) (c_2 : Nat) (s_3 : Seg), v = .slice A_1 r.length c_2 ∧ M = [s_3] ∧ Own (Kd.int .i64) 2 J A_1 c_2 r s_3) := by
  have hle := ImmLe.refl I0
  unfold impl_shown at H
  refine fn_intro (fn := Try.f65) 10 Try.func65 rfl rfl rfl (fun E Fs => ?_)
  refine at_seq ?_
  refine at_reg [] [0] (L2 := [(0, .int .i64 p92)]) (obs := []) (by kernel_rfl) ?_ ?_
  · intro w hs; exact trivial
  refine at_thn ?_
  refine at_seq ?_
  refine at_seq ?_
  refine at_ops [0, 1] rfl ?_
  refine at_seg [0] [1] rfl [] [0, 3] (L2 := [(0, .int .i64 p92), (3, .int .i64 p92)]) (obs := []) (by kernel_rfl) ?_ ?_
  · intro w hs; exact trivial
  refine at_eff rfl rfl ?_
  obtain ⟨b5, H93, H⟩ := bind_some H
  have hm_ := impl_isControl.calls (I0 := I0) H93
  refine eff_call rfl rfl ok57 rfl rfl (show Meets Try.prog 57 ([.int .i64 p92] : List Value).toArray _ [] _ from hm_) (Mr := (Fs)) (List.Perm.refl _) (fun v94 J95 M96 hq97 hJ98 => ?_)
  replace hle := hle.trans hJ98
  obtain ⟨rfl, rfl⟩ := hq97
  refine at_end ?_
  refine at_thn ?_
  by_cases h99 : b5 = true
  · rw [if_pos h99] at H
    refine at_cond_t rfl (h99) ?_
    refine at_seq ?_
    refine at_ops [0, 1, 2, 3] rfl ?_
    refine at_seg [0, 1] [2, 3] rfl [] [6] (L2 := [(6, .int .i64 (bitsV .xor .i64 p92 64))]) (obs := []) (by kernel_rfl) ?_ ?_
    · intro w hs; exact trivial
    refine at_eff rfl rfl ?_
    refine eff_buildSlice (e := 2) (cells := #[.int .i64 94, .int .i64 (bitsV .xor .i64 p92 64)]) ([94, bitsV .xor .i64 p92 64] : List Int).length rfl rfl rfl (by kernel_rfl) (fun g100 => ?_)
    have ho101 := own_lit (K := (Kd.int .i64)) (e := 2) (I := J95) (xs := ([94, bitsV .xor .i64 p92 64] : List Int)) (css := [[.int .i64 94], [.int .i64 (bitsV .xor .i64 p92 64)]]) (cells := #[.int .i64 94, .int .i64 (bitsV .xor .i64 p92 64)]) (b := g100) ⟨rfl, ⟨rfl, trivial⟩⟩ rfl
    refine at_seg [3] [] rfl [] [2] (L2 := [(2, .slice (some ⟨g100, 0, none⟩ : Option Addr) ([94, bitsV .xor .i64 p92 64] : List Int).length (([94, bitsV .xor .i64 p92 64] : List Int).length))]) (obs := []) (by kernel_rfl) ?_ ?_
    · intro w hs; exact trivial
    refine at_end ?_
    refine at_thn ?_
    refine at_ret ?_
    refine at_then_ret ?_
    obtain rfl := Option.some.inj H
    refine at_done (vs := [.slice (some ⟨g100, 0, none⟩ : Option Addr) ([94, bitsV .xor .i64 p92 64] : List Int).length (([94, bitsV .xor .i64 p92 64] : List Int).length)]) (obs := []) (.inl rfl) [.tmp 2] [] rfl (by kernel_rfl) (fun w hs => trivial) (fun w hs => ⟨_, _, [[(g100, .cells #[.int .i64 94, .int .i64 (bitsV .xor .i64 p92 64)] 2 (0, 0))]], rfl, ⟨(some ⟨g100, 0, none⟩ : Option Addr), ([94, bitsV .xor .i64 p92 64] : List Int).length, [(g100, .cells #[.int .i64 94, .int .i64 (bitsV .xor .i64 p92 64)] 2 (0, 0))], rfl, rfl, ho101⟩, hle, hs⟩)
  · rw [if_neg h99] at H
    refine at_cond_f rfl (ff_of h99) ?_
    refine at_skip ?_
    refine at_thn ?_
    refine at_seq ?_
    refine at_ops [0, 1, 2] rfl ?_
    refine at_seg [0] [1, 2] rfl [] [8] (L2 := [(8, .int .i64 p92)]) (obs := []) (by kernel_rfl) ?_ ?_
    · intro w hs; exact trivial
    refine at_eff rfl rfl ?_
    refine eff_buildSlice (e := 2) (cells := #[.int .i64 p92]) ([p92] : List Int).length rfl rfl rfl (by kernel_rfl) (fun g102 => ?_)
    have ho103 := own_lit (K := (Kd.int .i64)) (e := 2) (I := J95) (xs := ([p92] : List Int)) (css := [[.int .i64 p92]]) (cells := #[.int .i64 p92]) (b := g102) ⟨rfl, trivial⟩ rfl
    refine at_seg [2] [] rfl [] [2] (L2 := [(2, .slice (some ⟨g102, 0, none⟩ : Option Addr) ([p92] : List Int).length (([p92] : List Int).length))]) (obs := []) (by kernel_rfl) ?_ ?_
    · intro w hs; exact trivial
    refine at_end ?_
    refine at_thn ?_
    refine at_ret ?_
    obtain rfl := Option.some.inj H
    refine at_done (vs := [.slice (some ⟨g102, 0, none⟩ : Option Addr) ([p92] : List Int).length (([p92] : List Int).length)]) (obs := []) (.inl rfl) [.tmp 2] [] rfl (by kernel_rfl) (fun w hs => trivial) (fun w hs => ⟨_, _, [[(g102, .cells #[.int .i64 p92] 2 (0, 0))]], rfl, ⟨(some ⟨g102, 0, none⟩ : Option Addr), ([p92] : List Int).length, [(g102, .cells #[.int .i64 p92] 2 (0, 0))], rfl, rfl, ho103⟩, hle, hs⟩)

/-! ### loop.example/g00146/impl.WidthOf: function 55 -/
def impl_WidthOf_l0 : Nat → Int → Int → Option Int
  | 0, _, _ => none
  | k + 1, x128, p104 => if x128 < (([(⟨4352, 4447⟩ : T_anon96), (⟨11904, 42191⟩ : T_anon96), (⟨44032, 55203⟩ : T_anon96), (⟨63744, 64255⟩ : T_anon96), (⟨65281, 65376⟩ : T_anon96), (⟨127744, 129791⟩ : T_anon96)] : List T_anon96).length : Int) then (if 0 ≤ x128 then ((impl_within p104 ((rdA z_anon96 ([(⟨4352, 4447⟩ : T_anon96), (⟨11904, 42191⟩ : T_anon96), (⟨44032, 55203⟩ : T_anon96), (⟨63744, 64255⟩ : T_anon96), (⟨65281, 65376⟩ : T_anon96), (⟨127744, 129791⟩ : T_anon96)] : List T_anon96) x128).e0) ((rdA z_anon96 ([(⟨4352, 4447⟩ : T_anon96), (⟨11904, 42191⟩ : T_anon96), (⟨44032, 55203⟩ : T_anon96), (⟨63744, 64255⟩ : T_anon96), (⟨65281, 65376⟩ : T_anon96), (⟨127744, 129791⟩ : T_anon96)] : List T_anon96) x128).e1)).bind fun b9 => (if b9 = true then (some 2) else (impl_WidthOf_l0 k (IntKind.i64.wrap (x128 + 1)) p104))) else none) else (some 1)
def impl_WidthOf (k : Nat) (p104 : Int) : Option Int := (impl_isPoint p104).bind fun b6 => (if b6 = true then ((impl_within p104 768 879).bind fun b7 => (if b7 = true then (some 0) else ((impl_isControl p104).bind fun b8 => (if b8 = true then (some 2) else (impl_WidthOf_l0 k 0 p104))))) else (some 0))
set_option maxHeartbeats 4000000 in
set_option maxRecDepth 100000 in
theorem impl_WidthOf.calls {k : Nat} {p104 : Int} {r : Int} {I0 : Imm} (H : impl_WidthOf k p104 = some r) :
    Meets Try.prog 55 ([.int .i64 p104] : List Value).toArray I0 [] (fun v J M => v = .int .i64 r ∧ M = []) := by
  have hle := ImmLe.refl I0
  unfold impl_WidthOf at H
  refine fn_intro (fn := Try.f55) 33 Try.func55 rfl rfl rfl (fun E Fs => ?_)
  refine at_seq ?_
  refine at_reg [] [0] (L2 := [(0, .int .i64 p104)]) (obs := []) (by kernel_rfl) ?_ ?_
  · intro w hs; exact trivial
  refine at_thn ?_
  refine at_seq ?_
  refine at_seq ?_
  refine at_ops [0, 1, 2, 3, 4, 5, 6] rfl ?_
  refine at_seg [0] [1, 2, 3, 4, 5, 6] rfl [] [0, 5] (L2 := [(0, .int .i64 p104), (5, .int .i64 p104)]) (obs := []) (by kernel_rfl) ?_ ?_
  · intro w hs; exact trivial
  refine at_eff rfl rfl ?_
  obtain ⟨b6, H105, H⟩ := bind_some H
  have hm_ := impl_isPoint.calls (I0 := I0) H105
  refine eff_call rfl rfl ok56 rfl rfl (show Meets Try.prog 56 ([.int .i64 p104] : List Value).toArray _ [] _ from hm_) (Mr := (Fs)) (List.Perm.refl _) (fun v106 J107 M108 hq109 hJ110 => ?_)
  replace hle := hle.trans hJ110
  obtain ⟨rfl, rfl⟩ := hq109
  by_cases h111 : b6 = true
  · rw [if_pos h111] at H
    refine at_seg [2, 3, 4] [5, 6] rfl [(3, .bool false)] [0, 8, 9] (L2 := [(0, .int .i64 p104), (8, .bool false), (9, .int .i64 p104)]) (obs := [fun _ => (.bool (!b6) : Value) = .bool false]) (by kernel_rfl) ?_ ?_
    · intro w hs; exact congrArg Value.bool (not_ff (h111))
    refine at_eff rfl rfl ?_
    obtain ⟨b7, H112, H⟩ := bind_some H
    have hm_ := impl_within.calls (I0 := J107) H112
    refine eff_call rfl rfl ok36 rfl rfl (show Meets Try.prog 36 ([.int .i64 p104, .int .i64 768, .int .i64 879] : List Value).toArray _ [] _ from hm_) (Mr := (Fs)) (List.Perm.refl _) (fun v113 J114 M115 hq116 hJ117 => ?_)
    replace hle := hle.trans hJ117
    obtain ⟨rfl, rfl⟩ := hq116
    refine at_seg [6] [] rfl [] [0, 11] (L2 := [(0, .int .i64 p104), (11, .bool b7)]) (obs := []) (by kernel_rfl) ?_ ?_
    · intro w hs; exact trivial
    refine at_end ?_
    refine at_thn ?_
    by_cases h118 : b7 = true
    · rw [if_pos h118] at H
      refine at_cond_t rfl (h118) ?_
      refine at_seq ?_
      refine at_reg [] [2] (L2 := [(2, .int .i64 0)]) (obs := []) (by kernel_rfl) ?_ ?_
      · intro w hs; exact trivial
      refine at_thn ?_
      refine at_ret ?_
      refine at_then_ret ?_
      obtain rfl := Option.some.inj H
      refine at_done (vs := [.int .i64 0]) (obs := []) (.inl rfl) [.tmp 2] [] rfl (by kernel_rfl) (fun w hs => trivial) (fun w hs => ⟨_, _, [], rfl, ⟨rfl, rfl⟩, hle, hs⟩)
    · rw [if_neg h118] at H
      refine at_cond_f rfl (ff_of h118) ?_
      refine at_skip ?_
      refine at_thn ?_
      refine at_seq ?_
      refine at_seq ?_
      refine at_ops [0, 1] rfl ?_
      refine at_seg [0] [1] rfl [] [0, 12] (L2 := [(0, .int .i64 p104), (12, .int .i64 p104)]) (obs := []) (by kernel_rfl) ?_ ?_
      · intro w hs; exact trivial
      refine at_eff rfl rfl ?_
      obtain ⟨b8, H119, H⟩ := bind_some H
      have hm_ := impl_isControl.calls (I0 := J114) H119
      refine eff_call rfl rfl ok57 rfl rfl (show Meets Try.prog 57 ([.int .i64 p104] : List Value).toArray _ [] _ from hm_) (Mr := (Fs)) (List.Perm.refl _) (fun v120 J121 M122 hq123 hJ124 => ?_)
      replace hle := hle.trans hJ124
      obtain ⟨rfl, rfl⟩ := hq123
      refine at_end ?_
      refine at_thn ?_
      by_cases h125 : b8 = true
      · rw [if_pos h125] at H
        refine at_cond_t rfl (h125) ?_
        refine at_seq ?_
        refine at_reg [] [2] (L2 := [(2, .int .i64 2)]) (obs := []) (by kernel_rfl) ?_ ?_
        · intro w hs; exact trivial
        refine at_thn ?_
        refine at_ret ?_
        refine at_then_ret ?_
        obtain rfl := Option.some.inj H
        refine at_done (vs := [.int .i64 2]) (obs := []) (.inl rfl) [.tmp 2] [] rfl (by kernel_rfl) (fun w hs => trivial) (fun w hs => ⟨_, _, [], rfl, ⟨rfl, rfl⟩, hle, hs⟩)
      · rw [if_neg h125] at H
        refine at_cond_f rfl (ff_of h125) ?_
        refine at_skip ?_
        refine at_thn ?_
        refine at_seq ?_
        refine at_seq ?_
        refine at_ops [0, 1, 2, 3, 4, 5, 6, 7, 8] rfl ?_
        refine at_seg [0, 1, 2, 3, 4, 5] [6, 7, 8] rfl [] [0, 14, 15, 16, 17, 18, 19] (L2 := [(0, .int .i64 p104), (14, .agg #[.int .i64 4352, .int .i64 4447]), (15, .agg #[.int .i64 11904, .int .i64 42191]), (16, .agg #[.int .i64 44032, .int .i64 55203]), (17, .agg #[.int .i64 63744, .int .i64 64255]), (18, .agg #[.int .i64 65281, .int .i64 65376]), (19, .agg #[.int .i64 127744, .int .i64 129791])]) (obs := []) (by kernel_rfl) ?_ ?_
        · intro w hs; exact trivial
        refine at_eff rfl rfl ?_
        refine eff_buildSlice (e := 96) (cells := #[.int .i64 4352, .int .i64 4447, .int .i64 11904, .int .i64 42191, .int .i64 44032, .int .i64 55203, .int .i64 63744, .int .i64 64255, .int .i64 65281, .int .i64 65376, .int .i64 127744, .int .i64 129791]) ([(⟨4352, 4447⟩ : T_anon96), (⟨11904, 42191⟩ : T_anon96), (⟨44032, 55203⟩ : T_anon96), (⟨63744, 64255⟩ : T_anon96), (⟨65281, 65376⟩ : T_anon96), (⟨127744, 129791⟩ : T_anon96)] : List T_anon96).length rfl rfl rfl (by kernel_rfl) (fun g126 => ?_)
        have ho127 := own_lit (K := k_anon96) (e := 96) (I := J121) (xs := ([(⟨4352, 4447⟩ : T_anon96), (⟨11904, 42191⟩ : T_anon96), (⟨44032, 55203⟩ : T_anon96), (⟨63744, 64255⟩ : T_anon96), (⟨65281, 65376⟩ : T_anon96), (⟨127744, 129791⟩ : T_anon96)] : List T_anon96)) (css := [[.int .i64 4352, .int .i64 4447], [.int .i64 11904, .int .i64 42191], [.int .i64 44032, .int .i64 55203], [.int .i64 63744, .int .i64 64255], [.int .i64 65281, .int .i64 65376], [.int .i64 127744, .int .i64 129791]]) (cells := #[.int .i64 4352, .int .i64 4447, .int .i64 11904, .int .i64 42191, .int .i64 44032, .int .i64 55203, .int .i64 63744, .int .i64 64255, .int .i64 65281, .int .i64 65376, .int .i64 127744, .int .i64 129791]) (b := g126) ⟨rfl, ⟨rfl, ⟨rfl, ⟨rfl, ⟨rfl, ⟨rfl, trivial⟩⟩⟩⟩⟩⟩ rfl
        refine at_seg [7, 8] [] rfl [] [0, 20, 21, 22] (L2 := [(0, .int .i64 p104), (20, .slice (some ⟨g126, 0, none⟩ : Option Addr) ([(⟨4352, 4447⟩ : T_anon96), (⟨11904, 42191⟩ : T_anon96), (⟨44032, 55203⟩ : T_anon96), (⟨63744, 64255⟩ : T_anon96), (⟨65281, 65376⟩ : T_anon96), (⟨127744, 129791⟩ : T_anon96)] : List T_anon96).length (([(⟨4352, 4447⟩ : T_anon96), (⟨11904, 42191⟩ : T_anon96), (⟨44032, 55203⟩ : T_anon96), (⟨63744, 64255⟩ : T_anon96), (⟨65281, 65376⟩ : T_anon96), (⟨127744, 129791⟩ : T_anon96)] : List T_anon96).length)), (21, .int .i64 (([(⟨4352, 4447⟩ : T_anon96), (⟨11904, 42191⟩ : T_anon96), (⟨44032, 55203⟩ : T_anon96), (⟨63744, 64255⟩ : T_anon96), (⟨65281, 65376⟩ : T_anon96), (⟨127744, 129791⟩ : T_anon96)] : List T_anon96).length : Int)), (22, .int .i64 0)]) (obs := []) (by kernel_rfl) ?_ ?_
        · intro w hs; exact trivial
        refine at_end ?_
        refine at_thn ?_
        refine at_block ?_
        refine at_keep [0, 20, 21, 22] (L2 := [(0, .int .i64 p104), (20, .slice (some ⟨g126, 0, none⟩ : Option Addr) ([(⟨4352, 4447⟩ : T_anon96), (⟨11904, 42191⟩ : T_anon96), (⟨44032, 55203⟩ : T_anon96), (⟨63744, 64255⟩ : T_anon96), (⟨65281, 65376⟩ : T_anon96), (⟨127744, 129791⟩ : T_anon96)] : List T_anon96).length (([(⟨4352, 4447⟩ : T_anon96), (⟨11904, 42191⟩ : T_anon96), (⟨44032, 55203⟩ : T_anon96), (⟨63744, 64255⟩ : T_anon96), (⟨65281, 65376⟩ : T_anon96), (⟨127744, 129791⟩ : T_anon96)] : List T_anon96).length)), (21, .int .i64 (([(⟨4352, 4447⟩ : T_anon96), (⟨11904, 42191⟩ : T_anon96), (⟨44032, 55203⟩ : T_anon96), (⟨63744, 64255⟩ : T_anon96), (⟨65281, 65376⟩ : T_anon96), (⟨127744, 129791⟩ : T_anon96)] : List T_anon96).length : Int)), (22, .int .i64 0)]) rfl ?_
        refine at_loop (fun k129 L I Ms => ∃ (x128 : Int), L = [(0, .int .i64 p104), (20, .slice (some ⟨g126, 0, none⟩ : Option Addr) ([(⟨4352, 4447⟩ : T_anon96), (⟨11904, 42191⟩ : T_anon96), (⟨44032, 55203⟩ : T_anon96), (⟨63744, 64255⟩ : T_anon96), (⟨65281, 65376⟩ : T_anon96), (⟨127744, 129791⟩ : T_anon96)] : List T_anon96).length (([(⟨4352, 4447⟩ : T_anon96), (⟨11904, 42191⟩ : T_anon96), (⟨44032, 55203⟩ : T_anon96), (⟨63744, 64255⟩ : T_anon96), (⟨65281, 65376⟩ : T_anon96), (⟨127744, 129791⟩ : T_anon96)] : List T_anon96).length)), (21, .int .i64 (([(⟨4352, 4447⟩ : T_anon96), (⟨11904, 42191⟩ : T_anon96), (⟨44032, 55203⟩ : T_anon96), (⟨63744, 64255⟩ : T_anon96), (⟨65281, 65376⟩ : T_anon96), (⟨127744, 129791⟩ : T_anon96)] : List T_anon96).length : Int)), (22, .int .i64 x128)] ∧ Ms = ([(g126, .cells #[.int .i64 4352, .int .i64 4447, .int .i64 11904, .int .i64 42191, .int .i64 44032, .int .i64 55203, .int .i64 63744, .int .i64 64255, .int .i64 65281, .int .i64 65376, .int .i64 127744, .int .i64 129791] 96 (0, 0))] :: Fs) ∧ impl_WidthOf_l0 k129 x128 p104 = some r ∧ ImmLe I0 I ∧ k129 ≤ k ∧ Own k_anon96 96 I (some ⟨g126, 0, none⟩ : Option Addr) (([(⟨4352, 4447⟩ : T_anon96), (⟨11904, 42191⟩ : T_anon96), (⟨44032, 55203⟩ : T_anon96), (⟨63744, 64255⟩ : T_anon96), (⟨65281, 65376⟩ : T_anon96), (⟨127744, 129791⟩ : T_anon96)] : List T_anon96).length) ([(⟨4352, 4447⟩ : T_anon96), (⟨11904, 42191⟩ : T_anon96), (⟨44032, 55203⟩ : T_anon96), (⟨63744, 64255⟩ : T_anon96), (⟨65281, 65376⟩ : T_anon96), (⟨127744, 129791⟩ : T_anon96)] : List T_anon96) [(g126, .cells #[.int .i64 4352, .int .i64 4447, .int .i64 11904, .int .i64 42191, .int .i64 44032, .int .i64 55203, .int .i64 63744, .int .i64 64255, .int .i64 65281, .int .i64 65376, .int .i64 127744, .int .i64 129791] 96 (0, 0))]) ?_ ?_ k ⟨0, rfl, rfl, H, hle, Nat.le_refl _, ho127⟩
        · rintro L I Ms ⟨_, rfl, rfl, H, _⟩; exact no_none H
        · clear H hle ho127
          intro k129 ih130 L I Ms h_; obtain ⟨x128, hL_, hM_, H, hle, hk131, ho127⟩ := h_; rw [hL_, hM_]; clear hL_ hM_ L Ms
          rw [impl_WidthOf_l0] at H
          refine at_seq ?_
          refine at_reg [] [0, 20, 21, 22, 23] (L2 := [(0, .int .i64 p104), (20, .slice (some ⟨g126, 0, none⟩ : Option Addr) ([(⟨4352, 4447⟩ : T_anon96), (⟨11904, 42191⟩ : T_anon96), (⟨44032, 55203⟩ : T_anon96), (⟨63744, 64255⟩ : T_anon96), (⟨65281, 65376⟩ : T_anon96), (⟨127744, 129791⟩ : T_anon96)] : List T_anon96).length (([(⟨4352, 4447⟩ : T_anon96), (⟨11904, 42191⟩ : T_anon96), (⟨44032, 55203⟩ : T_anon96), (⟨63744, 64255⟩ : T_anon96), (⟨65281, 65376⟩ : T_anon96), (⟨127744, 129791⟩ : T_anon96)] : List T_anon96).length)), (21, .int .i64 (([(⟨4352, 4447⟩ : T_anon96), (⟨11904, 42191⟩ : T_anon96), (⟨44032, 55203⟩ : T_anon96), (⟨63744, 64255⟩ : T_anon96), (⟨65281, 65376⟩ : T_anon96), (⟨127744, 129791⟩ : T_anon96)] : List T_anon96).length : Int)), (22, .int .i64 x128), (23, .bool (decide (x128 < (([(⟨4352, 4447⟩ : T_anon96), (⟨11904, 42191⟩ : T_anon96), (⟨44032, 55203⟩ : T_anon96), (⟨63744, 64255⟩ : T_anon96), (⟨65281, 65376⟩ : T_anon96), (⟨127744, 129791⟩ : T_anon96)] : List T_anon96).length : Int))))]) (obs := []) (by kernel_rfl) ?_ ?_
          · intro w hs; exact trivial
          refine at_thn ?_
          refine at_seq ?_
          by_cases h132 : x128 < (([(⟨4352, 4447⟩ : T_anon96), (⟨11904, 42191⟩ : T_anon96), (⟨44032, 55203⟩ : T_anon96), (⟨63744, 64255⟩ : T_anon96), (⟨65281, 65376⟩ : T_anon96), (⟨127744, 129791⟩ : T_anon96)] : List T_anon96).length : Int)
          · rw [if_pos h132] at H
            refine at_cond_t rfl (decide_eq_true h132) ?_
            refine at_skip ?_
            refine at_thn ?_
            refine at_seq ?_
            refine at_block ?_
            refine at_seq ?_
            refine at_ops [0, 1, 2, 3] rfl ?_
            obtain ⟨h133, H⟩ := ite_some H
            obtain ⟨cs135, hz136, hc134⟩ := ho127.elem z_anon96 x128 h133 h132
            obtain rfl := hz136
            refine at_seg [0, 1] [2, 3] rfl [(1, .agg #[.int .i64 ((rdA z_anon96 ([(⟨4352, 4447⟩ : T_anon96), (⟨11904, 42191⟩ : T_anon96), (⟨44032, 55203⟩ : T_anon96), (⟨63744, 64255⟩ : T_anon96), (⟨65281, 65376⟩ : T_anon96), (⟨127744, 129791⟩ : T_anon96)] : List T_anon96) x128).e0), .int .i64 ((rdA z_anon96 ([(⟨4352, 4447⟩ : T_anon96), (⟨11904, 42191⟩ : T_anon96), (⟨44032, 55203⟩ : T_anon96), (⟨63744, 64255⟩ : T_anon96), (⟨65281, 65376⟩ : T_anon96), (⟨127744, 129791⟩ : T_anon96)] : List T_anon96) x128).e1)])] [0, 20, 21, 22, 25] (L2 := [(0, .int .i64 p104), (20, .slice (some ⟨g126, 0, none⟩ : Option Addr) ([(⟨4352, 4447⟩ : T_anon96), (⟨11904, 42191⟩ : T_anon96), (⟨44032, 55203⟩ : T_anon96), (⟨63744, 64255⟩ : T_anon96), (⟨65281, 65376⟩ : T_anon96), (⟨127744, 129791⟩ : T_anon96)] : List T_anon96).length (([(⟨4352, 4447⟩ : T_anon96), (⟨11904, 42191⟩ : T_anon96), (⟨44032, 55203⟩ : T_anon96), (⟨63744, 64255⟩ : T_anon96), (⟨65281, 65376⟩ : T_anon96), (⟨127744, 129791⟩ : T_anon96)] : List T_anon96).length)), (21, .int .i64 (([(⟨4352, 4447⟩ : T_anon96), (⟨11904, 42191⟩ : T_anon96), (⟨44032, 55203⟩ : T_anon96), (⟨63744, 64255⟩ : T_anon96), (⟨65281, 65376⟩ : T_anon96), (⟨127744, 129791⟩ : T_anon96)] : List T_anon96).length : Int)), (22, .int .i64 x128), (25, .agg #[.int .i64 ((rdA z_anon96 ([(⟨4352, 4447⟩ : T_anon96), (⟨11904, 42191⟩ : T_anon96), (⟨44032, 55203⟩ : T_anon96), (⟨63744, 64255⟩ : T_anon96), (⟨65281, 65376⟩ : T_anon96), (⟨127744, 129791⟩ : T_anon96)] : List T_anon96) x128).e0), .int .i64 ((rdA z_anon96 ([(⟨4352, 4447⟩ : T_anon96), (⟨11904, 42191⟩ : T_anon96), (⟨44032, 55203⟩ : T_anon96), (⟨63744, 64255⟩ : T_anon96), (⟨65281, 65376⟩ : T_anon96), (⟨127744, 129791⟩ : T_anon96)] : List T_anon96) x128).e1)])]) (obs := [fun _ => (some ⟨g126, 0, none⟩ : Option Addr).isSome = true ∧ 0 ≤ x128 ∧ x128 < ((([(⟨4352, 4447⟩ : T_anon96), (⟨11904, 42191⟩ : T_anon96), (⟨44032, 55203⟩ : T_anon96), (⟨63744, 64255⟩ : T_anon96), (⟨65281, 65376⟩ : T_anon96), (⟨127744, 129791⟩ : T_anon96)] : List T_anon96).length : Nat) : Int), fun w => CellsAt w (((some ⟨g126, 0, none⟩ : Option Addr).getD ad0).add (x128.toNat * 2)) [.int .i64 ((rdA z_anon96 ([(⟨4352, 4447⟩ : T_anon96), (⟨11904, 42191⟩ : T_anon96), (⟨44032, 55203⟩ : T_anon96), (⟨63744, 64255⟩ : T_anon96), (⟨65281, 65376⟩ : T_anon96), (⟨127744, 129791⟩ : T_anon96)] : List T_anon96) x128).e0), .int .i64 ((rdA z_anon96 ([(⟨4352, 4447⟩ : T_anon96), (⟨11904, 42191⟩ : T_anon96), (⟨44032, 55203⟩ : T_anon96), (⟨63744, 64255⟩ : T_anon96), (⟨65281, 65376⟩ : T_anon96), (⟨127744, 129791⟩ : T_anon96)] : List T_anon96) x128).e1)] 0]) (by kernel_rfl) ?_ ?_
            · intro w hs; exact ⟨⟨ho127.ne x128 h133 h132, h133, h132⟩, ⟨hc134 0 _ rfl hs (k := 0) rfl, hc134 1 _ rfl hs (k := 0) rfl, trivial⟩⟩
            refine at_eff rfl rfl ?_
            obtain ⟨i_, hi_, hz_, _, _⟩ := info96
            refine eff_alloc rfl rfl hi_ hz_ #[.int .i64 0, .int .i64 0] rfl (fun g137 => ?_)
            refine at_eff rfl rfl ?_
            refine eff_store 0 rfl rfl rfl rfl rfl rfl (.inl (Nat.le_refl _)) rfl (Nat.le_of_ble_eq_true (by kernel_rfl)) rfl ?_
            refine at_eqM (M1 := ([(g137, .cells #[.int .i64 ((rdA z_anon96 ([(⟨4352, 4447⟩ : T_anon96), (⟨11904, 42191⟩ : T_anon96), (⟨44032, 55203⟩ : T_anon96), (⟨63744, 64255⟩ : T_anon96), (⟨65281, 65376⟩ : T_anon96), (⟨127744, 129791⟩ : T_anon96)] : List T_anon96) x128).e0), .int .i64 ((rdA z_anon96 ([(⟨4352, 4447⟩ : T_anon96), (⟨11904, 42191⟩ : T_anon96), (⟨44032, 55203⟩ : T_anon96), (⟨63744, 64255⟩ : T_anon96), (⟨65281, 65376⟩ : T_anon96), (⟨127744, 129791⟩ : T_anon96)] : List T_anon96) x128).e1)] 96 (0, 0))] :: [(g126, .cells #[.int .i64 4352, .int .i64 4447, .int .i64 11904, .int .i64 42191, .int .i64 44032, .int .i64 55203, .int .i64 63744, .int .i64 64255, .int .i64 65281, .int .i64 65376, .int .i64 127744, .int .i64 129791] 96 (0, 0))] :: Fs)) (M2 := ([(g137, .cells #[.int .i64 ((rdA z_anon96 ([(⟨4352, 4447⟩ : T_anon96), (⟨11904, 42191⟩ : T_anon96), (⟨44032, 55203⟩ : T_anon96), (⟨63744, 64255⟩ : T_anon96), (⟨65281, 65376⟩ : T_anon96), (⟨127744, 129791⟩ : T_anon96)] : List T_anon96) x128).e0), .int .i64 ((rdA z_anon96 ([(⟨4352, 4447⟩ : T_anon96), (⟨11904, 42191⟩ : T_anon96), (⟨44032, 55203⟩ : T_anon96), (⟨63744, 64255⟩ : T_anon96), (⟨65281, 65376⟩ : T_anon96), (⟨127744, 129791⟩ : T_anon96)] : List T_anon96) x128).e1)] 96 (0, 0))] :: [(g126, .cells #[.int .i64 4352, .int .i64 4447, .int .i64 11904, .int .i64 42191, .int .i64 44032, .int .i64 55203, .int .i64 63744, .int .i64 64255, .int .i64 65281, .int .i64 65376, .int .i64 127744, .int .i64 129791] 96 (0, 0))] :: Fs)) rfl rfl ?_
            refine at_end ?_
            refine at_thn ?_
            refine at_seq ?_
            refine at_ops [0, 1, 2, 3, 4, 5] rfl ?_
            refine at_seg [0, 1, 2, 3, 4] [5] rfl [(2, .int .i64 ((rdA z_anon96 ([(⟨4352, 4447⟩ : T_anon96), (⟨11904, 42191⟩ : T_anon96), (⟨44032, 55203⟩ : T_anon96), (⟨63744, 64255⟩ : T_anon96), (⟨65281, 65376⟩ : T_anon96), (⟨127744, 129791⟩ : T_anon96)] : List T_anon96) x128).e0)), (4, .int .i64 ((rdA z_anon96 ([(⟨4352, 4447⟩ : T_anon96), (⟨11904, 42191⟩ : T_anon96), (⟨44032, 55203⟩ : T_anon96), (⟨63744, 64255⟩ : T_anon96), (⟨65281, 65376⟩ : T_anon96), (⟨127744, 129791⟩ : T_anon96)] : List T_anon96) x128).e1))] [0, 20, 21, 22, 26, 28, 30] (L2 := [(0, .int .i64 p104), (20, .slice (some ⟨g126, 0, none⟩ : Option Addr) ([(⟨4352, 4447⟩ : T_anon96), (⟨11904, 42191⟩ : T_anon96), (⟨44032, 55203⟩ : T_anon96), (⟨63744, 64255⟩ : T_anon96), (⟨65281, 65376⟩ : T_anon96), (⟨127744, 129791⟩ : T_anon96)] : List T_anon96).length (([(⟨4352, 4447⟩ : T_anon96), (⟨11904, 42191⟩ : T_anon96), (⟨44032, 55203⟩ : T_anon96), (⟨63744, 64255⟩ : T_anon96), (⟨65281, 65376⟩ : T_anon96), (⟨127744, 129791⟩ : T_anon96)] : List T_anon96).length)), (21, .int .i64 (([(⟨4352, 4447⟩ : T_anon96), (⟨11904, 42191⟩ : T_anon96), (⟨44032, 55203⟩ : T_anon96), (⟨63744, 64255⟩ : T_anon96), (⟨65281, 65376⟩ : T_anon96), (⟨127744, 129791⟩ : T_anon96)] : List T_anon96).length : Int)), (22, .int .i64 x128), (26, .int .i64 p104), (28, .int .i64 ((rdA z_anon96 ([(⟨4352, 4447⟩ : T_anon96), (⟨11904, 42191⟩ : T_anon96), (⟨44032, 55203⟩ : T_anon96), (⟨63744, 64255⟩ : T_anon96), (⟨65281, 65376⟩ : T_anon96), (⟨127744, 129791⟩ : T_anon96)] : List T_anon96) x128).e0)), (30, .int .i64 ((rdA z_anon96 ([(⟨4352, 4447⟩ : T_anon96), (⟨11904, 42191⟩ : T_anon96), (⟨44032, 55203⟩ : T_anon96), (⟨63744, 64255⟩ : T_anon96), (⟨65281, 65376⟩ : T_anon96), (⟨127744, 129791⟩ : T_anon96)] : List T_anon96) x128).e1))]) (obs := [fun _ => 0 ≤ (0 : Int) ∧ (0 : Int) < ((2 : Nat) : Int), fun w => w.cell? ⟨g137, 0, none⟩ = some (.int .i64 ((rdA z_anon96 ([(⟨4352, 4447⟩ : T_anon96), (⟨11904, 42191⟩ : T_anon96), (⟨44032, 55203⟩ : T_anon96), (⟨63744, 64255⟩ : T_anon96), (⟨65281, 65376⟩ : T_anon96), (⟨127744, 129791⟩ : T_anon96)] : List T_anon96) x128).e0)), fun _ => 0 ≤ (1 : Int) ∧ (1 : Int) < ((2 : Nat) : Int), fun w => w.cell? ⟨g137, 1, none⟩ = some (.int .i64 ((rdA z_anon96 ([(⟨4352, 4447⟩ : T_anon96), (⟨11904, 42191⟩ : T_anon96), (⟨44032, 55203⟩ : T_anon96), (⟨63744, 64255⟩ : T_anon96), (⟨65281, 65376⟩ : T_anon96), (⟨127744, 129791⟩ : T_anon96)] : List T_anon96) x128).e1))]) (by kernel_rfl) ?_ ?_
            · intro w hs; exact ⟨(by decide : 0 ≤ (0 : Int) ∧ (0 : Int) < ((2 : Nat) : Int)), hs.var (k := 0) rfl 0 rfl, (by decide : 0 ≤ (1 : Int) ∧ (1 : Int) < ((2 : Nat) : Int)), hs.var (k := 0) rfl 1 rfl⟩
            refine at_eff rfl rfl ?_
            obtain ⟨b9, H138, H⟩ := bind_some H
            have hm_ := impl_within.calls (I0 := I) H138
            refine eff_call rfl rfl ok36 rfl rfl (show Meets Try.prog 36 ([.int .i64 p104, .int .i64 ((rdA z_anon96 ([(⟨4352, 4447⟩ : T_anon96), (⟨11904, 42191⟩ : T_anon96), (⟨44032, 55203⟩ : T_anon96), (⟨63744, 64255⟩ : T_anon96), (⟨65281, 65376⟩ : T_anon96), (⟨127744, 129791⟩ : T_anon96)] : List T_anon96) x128).e0), .int .i64 ((rdA z_anon96 ([(⟨4352, 4447⟩ : T_anon96), (⟨11904, 42191⟩ : T_anon96), (⟨44032, 55203⟩ : T_anon96), (⟨63744, 64255⟩ : T_anon96), (⟨65281, 65376⟩ : T_anon96), (⟨127744, 129791⟩ : T_anon96)] : List T_anon96) x128).e1)] : List Value).toArray _ [] _ from hm_) (Mr := ([(g137, .cells #[.int .i64 ((rdA z_anon96 ([(⟨4352, 4447⟩ : T_anon96), (⟨11904, 42191⟩ : T_anon96), (⟨44032, 55203⟩ : T_anon96), (⟨63744, 64255⟩ : T_anon96), (⟨65281, 65376⟩ : T_anon96), (⟨127744, 129791⟩ : T_anon96)] : List T_anon96) x128).e0), .int .i64 ((rdA z_anon96 ([(⟨4352, 4447⟩ : T_anon96), (⟨11904, 42191⟩ : T_anon96), (⟨44032, 55203⟩ : T_anon96), (⟨63744, 64255⟩ : T_anon96), (⟨65281, 65376⟩ : T_anon96), (⟨127744, 129791⟩ : T_anon96)] : List T_anon96) x128).e1)] 96 (0, 0))] :: [(g126, .cells #[.int .i64 4352, .int .i64 4447, .int .i64 11904, .int .i64 42191, .int .i64 44032, .int .i64 55203, .int .i64 63744, .int .i64 64255, .int .i64 65281, .int .i64 65376, .int .i64 127744, .int .i64 129791] 96 (0, 0))] :: Fs)) (List.Perm.refl _) (fun v139 J140 M141 hq142 hJ143 => ?_)
            replace hle := hle.trans hJ143
            replace ho127 := ho127.mono hJ143
            obtain ⟨rfl, rfl⟩ := hq142
            refine at_end ?_
            refine at_thn ?_
            by_cases h144 : b9 = true
            · rw [if_pos h144] at H
              refine at_cond_t rfl (h144) ?_
              refine at_seq ?_
              refine at_reg [] [2] (L2 := [(2, .int .i64 2)]) (obs := []) (by kernel_rfl) ?_ ?_
              · intro w hs; exact trivial
              refine at_thn ?_
              refine at_ret ?_
              refine at_in_ret ?_
              refine at_then_ret ?_
              refine at_then_ret ?_
              refine at_in_ret ?_
              refine at_then_ret ?_
              obtain rfl := Option.some.inj H
              refine at_drop (k := 0) rfl rfl ?_
              refine at_eqM (M1 := ([(g126, .cells #[.int .i64 4352, .int .i64 4447, .int .i64 11904, .int .i64 42191, .int .i64 44032, .int .i64 55203, .int .i64 63744, .int .i64 64255, .int .i64 65281, .int .i64 65376, .int .i64 127744, .int .i64 129791] 96 (0, 0))] :: Fs)) (M2 := ([(g126, .cells #[.int .i64 4352, .int .i64 4447, .int .i64 11904, .int .i64 42191, .int .i64 44032, .int .i64 55203, .int .i64 63744, .int .i64 64255, .int .i64 65281, .int .i64 65376, .int .i64 127744, .int .i64 129791] 96 (0, 0))] :: Fs)) rfl rfl ?_
              refine at_drop (k := 0) rfl rfl ?_
              refine at_eqM (M1 := (Fs)) (M2 := (Fs)) rfl rfl ?_
              refine at_done (vs := [.int .i64 2]) (obs := []) (.inl rfl) [.tmp 2] [] rfl (by kernel_rfl) (fun w hs => trivial) (fun w hs => ⟨_, _, [], rfl, ⟨rfl, rfl⟩, hle, hs⟩)
            · rw [if_neg h144] at H
              refine at_cond_f rfl (ff_of h144) ?_
              refine at_skip ?_
              refine at_in_norm ?_
              refine at_thn ?_
              refine at_reg [] [0, 20, 21, 22] (L2 := [(0, .int .i64 p104), (20, .slice (some ⟨g126, 0, none⟩ : Option Addr) ([(⟨4352, 4447⟩ : T_anon96), (⟨11904, 42191⟩ : T_anon96), (⟨44032, 55203⟩ : T_anon96), (⟨63744, 64255⟩ : T_anon96), (⟨65281, 65376⟩ : T_anon96), (⟨127744, 129791⟩ : T_anon96)] : List T_anon96).length (([(⟨4352, 4447⟩ : T_anon96), (⟨11904, 42191⟩ : T_anon96), (⟨44032, 55203⟩ : T_anon96), (⟨63744, 64255⟩ : T_anon96), (⟨65281, 65376⟩ : T_anon96), (⟨127744, 129791⟩ : T_anon96)] : List T_anon96).length)), (21, .int .i64 (([(⟨4352, 4447⟩ : T_anon96), (⟨11904, 42191⟩ : T_anon96), (⟨44032, 55203⟩ : T_anon96), (⟨63744, 64255⟩ : T_anon96), (⟨65281, 65376⟩ : T_anon96), (⟨127744, 129791⟩ : T_anon96)] : List T_anon96).length : Int)), (22, .int .i64 (IntKind.i64.wrap (x128 + 1)))]) (obs := []) (by kernel_rfl) ?_ ?_
              · intro w hs; exact trivial
              refine at_thn ?_
              refine at_drop (k := 0) rfl rfl ?_
              refine at_eqM (M1 := ([(g126, .cells #[.int .i64 4352, .int .i64 4447, .int .i64 11904, .int .i64 42191, .int .i64 44032, .int .i64 55203, .int .i64 63744, .int .i64 64255, .int .i64 65281, .int .i64 65376, .int .i64 127744, .int .i64 129791] 96 (0, 0))] :: Fs)) (M2 := ([(g126, .cells #[.int .i64 4352, .int .i64 4447, .int .i64 11904, .int .i64 42191, .int .i64 44032, .int .i64 55203, .int .i64 63744, .int .i64 64255, .int .i64 65281, .int .i64 65376, .int .i64 127744, .int .i64 129791] 96 (0, 0))] :: Fs)) rfl rfl ?_
              refine at_keep [0, 20, 21, 22] (L2 := [(0, .int .i64 p104), (20, .slice (some ⟨g126, 0, none⟩ : Option Addr) ([(⟨4352, 4447⟩ : T_anon96), (⟨11904, 42191⟩ : T_anon96), (⟨44032, 55203⟩ : T_anon96), (⟨63744, 64255⟩ : T_anon96), (⟨65281, 65376⟩ : T_anon96), (⟨127744, 129791⟩ : T_anon96)] : List T_anon96).length (([(⟨4352, 4447⟩ : T_anon96), (⟨11904, 42191⟩ : T_anon96), (⟨44032, 55203⟩ : T_anon96), (⟨63744, 64255⟩ : T_anon96), (⟨65281, 65376⟩ : T_anon96), (⟨127744, 129791⟩ : T_anon96)] : List T_anon96).length)), (21, .int .i64 (([(⟨4352, 4447⟩ : T_anon96), (⟨11904, 42191⟩ : T_anon96), (⟨44032, 55203⟩ : T_anon96), (⟨63744, 64255⟩ : T_anon96), (⟨65281, 65376⟩ : T_anon96), (⟨127744, 129791⟩ : T_anon96)] : List T_anon96).length : Int)), (22, .int .i64 (IntKind.i64.wrap (x128 + 1)))]) rfl ?_
              exact ih130 _ (by omega) _ _ _ ⟨IntKind.i64.wrap (x128 + 1), rfl, rfl, H, hle, by omega, ho127⟩
          · rw [if_neg h132] at H
            refine at_cond_f rfl (decide_eq_false h132) ?_
            refine at_exit ?_
            refine at_then_exit ?_
            refine at_then_exit ?_
            refine at_in_hit ?_
            refine at_thn ?_
            refine at_seq ?_
            refine at_reg [] [2] (L2 := [(2, .int .i64 1)]) (obs := []) (by kernel_rfl) ?_ ?_
            · intro w hs; exact trivial
            refine at_thn ?_
            refine at_ret ?_
            obtain rfl := Option.some.inj H
            refine at_drop (k := 0) rfl rfl ?_
            refine at_eqM (M1 := (Fs)) (M2 := (Fs)) rfl rfl ?_
            refine at_done (vs := [.int .i64 1]) (obs := []) (.inl rfl) [.tmp 2] [] rfl (by kernel_rfl) (fun w hs => trivial) (fun w hs => ⟨_, _, [], rfl, ⟨rfl, rfl⟩, hle, hs⟩)
  · rw [if_neg h111] at H
    refine at_seg [2, 3, 4] [5, 6] rfl [(3, .bool true)] [0, 8, 9] (L2 := [(0, .int .i64 p104), (8, .bool true), (9, undef)]) (obs := [fun _ => (.bool (!b6) : Value) = .bool true]) (by kernel_rfl) ?_ ?_
    · intro w hs; exact congrArg Value.bool (not_tt (ff_of h111))
    refine at_seg [5, 6] [] rfl [] [0, 11] (L2 := [(0, .int .i64 p104), (11, .bool true)]) (obs := []) (by kernel_rfl) ?_ ?_
    · intro w hs; exact trivial
    refine at_end ?_
    refine at_thn ?_
    refine at_cond_t rfl (rfl) ?_
    refine at_seq ?_
    refine at_reg [] [2] (L2 := [(2, .int .i64 0)]) (obs := []) (by kernel_rfl) ?_ ?_
    · intro w hs; exact trivial
    refine at_thn ?_
    refine at_ret ?_
    refine at_then_ret ?_
    obtain rfl := Option.some.inj H
    refine at_done (vs := [.int .i64 0]) (obs := []) (.inl rfl) [.tmp 2] [] rfl (by kernel_rfl) (fun w hs => trivial) (fun w hs => ⟨_, _, [], rfl, ⟨rfl, rfl⟩, hle, hs⟩)
end Go.Proofs.Ytnhnipdanpcbeaa
