import Derived.Test.YtocfakbgefdgkaaG3
namespace Go.Proofs.Ytocfakbgefdgkaa
open Go Eng
set_option linter.unusedVariables false
set_option linter.unusedSimpArgs false
/-! ### loop.example/g00146/impl.isControl: function 95 -/
def impl_isControl (p90 : Int) : Option Bool := if p90 < 32 then (some true) else (some (p90 == 127))
set_option maxHeartbeats 4000000 in
set_option maxRecDepth 100000 in
theorem impl_isControl.calls {p90 : Int} {r : Bool} {I0 : Imm} (H : impl_isControl p90 = some r) :
    Meets Try.prog 95 ([.int .i64 p90] : List Value).toArray I0 [] (fun v J M => v = .bool r ∧ M = []) := by
  have hle := ImmLe.refl I0
  unfold impl_isControl at H
  refine fn_intro (fn := Try.f95) 9 Try.func95 rfl rfl rfl (fun E Fs => ?_)
  refine at_seq ?_
  refine at_reg [] [0] (L2 := [(0, .int .i64 p90)]) (obs := []) (by kernel_rfl) ?_ ?_
  · intro w hs; exact trivial
  refine at_thn ?_
  refine at_seq ?_
  by_cases h91 : p90 < 32
  · rw [if_pos h91] at H
    refine at_reg [(2, .bool true)] [2] (L2 := [(2, .bool true)]) (obs := [fun _ => (.bool (decide (p90 < 32)) : Value) = .bool true]) (by kernel_rfl) ?_ ?_
    · intro w hs; exact congrArg Value.bool (decide_eq_true h91)
    refine at_thn ?_
    refine at_ret ?_
    obtain rfl := Option.some.inj H
    refine at_done (vs := [.bool true]) (obs := []) (.inl rfl) [.tmp 2] [] rfl (by kernel_rfl) (fun w hs => trivial) (fun w hs => ⟨_, _, [], rfl, ⟨rfl, rfl⟩, hle, hs⟩)
  · rw [if_neg h91] at H
    refine at_reg [(2, .bool false)] [2] (L2 := [(2, .bool (p90 == 127))]) (obs := [fun _ => (.bool (decide (p90 < 32)) : Value) = .bool false]) (by kernel_rfl) ?_ ?_
    · intro w hs; exact congrArg Value.bool (decide_eq_false h91)
    refine at_thn ?_
    refine at_ret ?_
    obtain rfl := Option.some.inj H
    refine at_done (vs := [.bool (p90 == 127)]) (obs := []) (.inl rfl) [.tmp 2] [] rfl (by kernel_rfl) (fun w hs => trivial) (fun w hs => ⟨_, _, [], rfl, ⟨rfl, rfl⟩, hle, hs⟩)

/-! ### loop.example/g00146/impl.shown: function 87 -/
def impl_shown (p89 : Int) : Option (List Int) := (impl_isControl p89).bind fun b5 => (if b5 = true then (some ([94, bitsV .xor .i64 p89 64] : List Int)) else (some ([p89] : List Int)))
set_option maxHeartbeats 4000000 in
set_option maxRecDepth 100000 in
theorem impl_shown.calls {p89 : Int} {r : (List Int)} {I0 : Imm} (H : impl_shown p89 = some r) :
    Meets Try.prog 87 ([.int .i64 p89] : List Value).toArray I0 [] (fun v J M => ∃ (A_1 : Option Addr) (c_2 : Nat) (s_3 : Seg), v = .slice A_1 r.length c_2 ∧ M = [s_3] ∧ Own (Kd.int .i64) 2 J A_1 c_2 r s_3) := by
  have hle := ImmLe.refl I0
  unfold impl_shown at H
  refine fn_intro (fn := Try.f87) 10 Try.func87 rfl rfl rfl (fun E Fs => ?_)
  refine at_seq ?_
  refine at_reg [] [0] (L2 := [(0, .int .i64 p89)]) (obs := []) (by kernel_rfl) ?_ ?_
  · intro w hs; exact trivial
  refine at_thn ?_
  refine at_seq ?_
  refine at_seq ?_
  refine at_ops [0, 1] rfl ?_
  refine at_seg [0] [1] rfl [] [0, 3] (L2 := [(0, .int .i64 p89), (3, .int .i64 p89)]) (obs := []) (by kernel_rfl) ?_ ?_
  · intro w hs; exact trivial
  refine at_eff rfl rfl ?_
  obtain ⟨b5, H90, H⟩ := bind_some H
  have hm_ := impl_isControl.calls (I0 := I0) H90
  refine eff_call rfl rfl ok95 rfl rfl (show Meets Try.prog 95 ([.int .i64 p89] : List Value).toArray _ [] _ from hm_) (Mr := (Fs)) (List.Perm.refl _) (fun v91 J92 M93 hq94 hJ95 => ?_)
  replace hle := hle.trans hJ95
  obtain ⟨rfl, rfl⟩ := hq94
  refine at_end ?_
  refine at_thn ?_
  by_cases h96 : b5 = true
  · rw [if_pos h96] at H
    refine at_cond_t rfl (h96) ?_
    refine at_seq ?_
    refine at_ops [0, 1, 2, 3] rfl ?_
    refine at_seg [0, 1] [2, 3] rfl [] [6] (L2 := [(6, .int .i64 (bitsV .xor .i64 p89 64))]) (obs := []) (by kernel_rfl) ?_ ?_
    · intro w hs; exact trivial
    refine at_eff rfl rfl ?_
    refine eff_buildSlice (e := 2) (cells := #[.int .i64 94, .int .i64 (bitsV .xor .i64 p89 64)]) ([94, bitsV .xor .i64 p89 64] : List Int).length rfl rfl rfl (by kernel_rfl) (fun g97 => ?_)
    have ho98 := own_lit (K := (Kd.int .i64)) (e := 2) (I := J92) (xs := ([94, bitsV .xor .i64 p89 64] : List Int)) (css := [[.int .i64 94], [.int .i64 (bitsV .xor .i64 p89 64)]]) (cells := #[.int .i64 94, .int .i64 (bitsV .xor .i64 p89 64)]) (b := g97) ⟨rfl, ⟨rfl, trivial⟩⟩ rfl
    refine at_seg [3] [] rfl [] [2] (L2 := [(2, .slice (some ⟨g97, 0, none⟩ : Option Addr) ([94, bitsV .xor .i64 p89 64] : List Int).length (([94, bitsV .xor .i64 p89 64] : List Int).length))]) (obs := []) (by kernel_rfl) ?_ ?_
    · intro w hs; exact trivial
    refine at_end ?_
    refine at_thn ?_
    refine at_ret ?_
    refine at_then_ret ?_
    obtain rfl := Option.some.inj H
    refine at_done (vs := [.slice (some ⟨g97, 0, none⟩ : Option Addr) ([94, bitsV .xor .i64 p89 64] : List Int).length (([94, bitsV .xor .i64 p89 64] : List Int).length)]) (obs := []) (.inl rfl) [.tmp 2] [] rfl (by kernel_rfl) (fun w hs => trivial) (fun w hs => ⟨_, _, [[(g97, .cells #[.int .i64 94, .int .i64 (bitsV .xor .i64 p89 64)] 2 (0, 0))]], rfl, ⟨(some ⟨g97, 0, none⟩ : Option Addr), ([94, bitsV .xor .i64 p89 64] : List Int).length, [(g97, .cells #[.int .i64 94, .int .i64 (bitsV .xor .i64 p89 64)] 2 (0, 0))], rfl, rfl, ho98⟩, hle, hs⟩)
  · rw [if_neg h96] at H
    refine at_cond_f rfl (ff_of h96) ?_
    refine at_skip ?_
    refine at_thn ?_
    refine at_seq ?_
    refine at_ops [0, 1, 2] rfl ?_
    refine at_seg [0] [1, 2] rfl [] [8] (L2 := [(8, .int .i64 p89)]) (obs := []) (by kernel_rfl) ?_ ?_
    · intro w hs; exact trivial
    refine at_eff rfl rfl ?_
    refine eff_buildSlice (e := 2) (cells := #[.int .i64 p89]) ([p89] : List Int).length rfl rfl rfl (by kernel_rfl) (fun g99 => ?_)
    have ho100 := own_lit (K := (Kd.int .i64)) (e := 2) (I := J92) (xs := ([p89] : List Int)) (css := [[.int .i64 p89]]) (cells := #[.int .i64 p89]) (b := g99) ⟨rfl, trivial⟩ rfl
    refine at_seg [2] [] rfl [] [2] (L2 := [(2, .slice (some ⟨g99, 0, none⟩ : Option Addr) ([p89] : List Int).length (([p89] : List Int).length))]) (obs := []) (by kernel_rfl) ?_ ?_
    · intro w hs; exact trivial
    refine at_end ?_
    refine at_thn ?_
    refine at_ret ?_
    obtain rfl := Option.some.inj H
    refine at_done (vs := [.slice (some ⟨g99, 0, none⟩ : Option Addr) ([p89] : List Int).length (([p89] : List Int).length)]) (obs := []) (.inl rfl) [.tmp 2] [] rfl (by kernel_rfl) (fun w hs => trivial) (fun w hs => ⟨_, _, [[(g99, .cells #[.int .i64 p89] 2 (0, 0))]], rfl, ⟨(some ⟨g99, 0, none⟩ : Option Addr), ([p89] : List Int).length, [(g99, .cells #[.int .i64 p89] 2 (0, 0))], rfl, rfl, ho100⟩, hle, hs⟩)

/-! ### loop.example/g00146/impl.WidthOf: function 88 -/
def impl_WidthOf_l0 : Nat → Int → Int → Option Int
  | 0, _, _ => none
  | k + 1, x125, p101 => if x125 < (([(⟨4352, 4447⟩ : T_anon107), (⟨11904, 42191⟩ : T_anon107), (⟨44032, 55203⟩ : T_anon107), (⟨63744, 64255⟩ : T_anon107), (⟨65281, 65376⟩ : T_anon107), (⟨127744, 129791⟩ : T_anon107)] : List T_anon107).length : Int) then (if 0 ≤ x125 then ((impl_within p101 ((rdA z_anon107 ([(⟨4352, 4447⟩ : T_anon107), (⟨11904, 42191⟩ : T_anon107), (⟨44032, 55203⟩ : T_anon107), (⟨63744, 64255⟩ : T_anon107), (⟨65281, 65376⟩ : T_anon107), (⟨127744, 129791⟩ : T_anon107)] : List T_anon107) x125).e0) ((rdA z_anon107 ([(⟨4352, 4447⟩ : T_anon107), (⟨11904, 42191⟩ : T_anon107), (⟨44032, 55203⟩ : T_anon107), (⟨63744, 64255⟩ : T_anon107), (⟨65281, 65376⟩ : T_anon107), (⟨127744, 129791⟩ : T_anon107)] : List T_anon107) x125).e1)).bind fun b9 => (if b9 = true then (some 2) else (impl_WidthOf_l0 k (IntKind.i64.wrap (x125 + 1)) p101))) else none) else (some 1)
def impl_WidthOf (k : Nat) (p101 : Int) : Option Int := (impl_isPoint p101).bind fun b6 => (if b6 = true then ((impl_within p101 768 879).bind fun b7 => (if b7 = true then (some 0) else ((impl_isControl p101).bind fun b8 => (if b8 = true then (some 2) else (impl_WidthOf_l0 k 0 p101))))) else (some 0))
set_option maxHeartbeats 4000000 in
set_option maxRecDepth 100000 in
theorem impl_WidthOf.calls {k : Nat} {p101 : Int} {r : Int} {I0 : Imm} (H : impl_WidthOf k p101 = some r) :
    Meets Try.prog 88 ([.int .i64 p101] : List Value).toArray I0 [] (fun v J M => v = .int .i64 r ∧ M = []) := by
  have hle := ImmLe.refl I0
  unfold impl_WidthOf at H
  refine fn_intro (fn := Try.f88) 33 Try.func88 rfl rfl rfl (fun E Fs => ?_)
  refine at_seq ?_
  refine at_reg [] [0] (L2 := [(0, .int .i64 p101)]) (obs := []) (by kernel_rfl) ?_ ?_
  · intro w hs; exact trivial
  refine at_thn ?_
  refine at_seq ?_
  refine at_seq ?_
  refine at_ops [0, 1, 2, 3, 4, 5, 6] rfl ?_
  refine at_seg [0] [1, 2, 3, 4, 5, 6] rfl [] [0, 5] (L2 := [(0, .int .i64 p101), (5, .int .i64 p101)]) (obs := []) (by kernel_rfl) ?_ ?_
  · intro w hs; exact trivial
  refine at_eff rfl rfl ?_
  obtain ⟨b6, H102, H⟩ := bind_some H
  have hm_ := impl_isPoint.calls (I0 := I0) H102
  refine eff_call rfl rfl ok85 rfl rfl (show Meets Try.prog 85 ([.int .i64 p101] : List Value).toArray _ [] _ from hm_) (Mr := (Fs)) (List.Perm.refl _) (fun v103 J104 M105 hq106 hJ107 => ?_)
  replace hle := hle.trans hJ107
  obtain ⟨rfl, rfl⟩ := hq106
  by_cases h108 : b6 = true
  · rw [if_pos h108] at H
    refine at_seg [2, 3, 4] [5, 6] rfl [(3, .bool false)] [0, 8, 9] (L2 := [(0, .int .i64 p101), (8, .bool false), (9, .int .i64 p101)]) (obs := [fun _ => (.bool (!b6) : Value) = .bool false]) (by kernel_rfl) ?_ ?_
    · intro w hs; exact congrArg Value.bool (not_ff (h108))
    refine at_eff rfl rfl ?_
    obtain ⟨b7, H109, H⟩ := bind_some H
    have hm_ := impl_within.calls (I0 := J104) H109
    refine eff_call rfl rfl ok59 rfl rfl (show Meets Try.prog 59 ([.int .i64 p101, .int .i64 768, .int .i64 879] : List Value).toArray _ [] _ from hm_) (Mr := (Fs)) (List.Perm.refl _) (fun v110 J111 M112 hq113 hJ114 => ?_)
    replace hle := hle.trans hJ114
    obtain ⟨rfl, rfl⟩ := hq113
    refine at_seg [6] [] rfl [] [0, 11] (L2 := [(0, .int .i64 p101), (11, .bool b7)]) (obs := []) (by kernel_rfl) ?_ ?_
    · intro w hs; exact trivial
    refine at_end ?_
    refine at_thn ?_
    by_cases h115 : b7 = true
    · rw [if_pos h115] at H
      refine at_cond_t rfl (h115) ?_
      refine at_seq ?_
      refine at_reg [] [2] (L2 := [(2, .int .i64 0)]) (obs := []) (by kernel_rfl) ?_ ?_
      · intro w hs; exact trivial
      refine at_thn ?_
      refine at_ret ?_
      refine at_then_ret ?_
      obtain rfl := Option.some.inj H
      refine at_done (vs := [.int .i64 0]) (obs := []) (.inl rfl) [.tmp 2] [] rfl (by kernel_rfl) (fun w hs => trivial) (fun w hs => ⟨_, _, [], rfl, ⟨rfl, rfl⟩, hle, hs⟩)
    · rw [if_neg h115] at H
      refine at_cond_f rfl (ff_of h115) ?_
      refine at_skip ?_
      refine at_thn ?_
      refine at_seq ?_
      refine at_seq ?_
      refine at_ops [0, 1] rfl ?_
      refine at_seg [0] [1] rfl [] [0, 12] (L2 := [(0, .int .i64 p101), (12, .int .i64 p101)]) (obs := []) (by kernel_rfl) ?_ ?_
      · intro w hs; exact trivial
      refine at_eff rfl rfl ?_
      obtain ⟨b8, H116, H⟩ := bind_some H
      have hm_ := impl_isControl.calls (I0 := J111) H116
      refine eff_call rfl rfl ok95 rfl rfl (show Meets Try.prog 95 ([.int .i64 p101] : List Value).toArray _ [] _ from hm_) (Mr := (Fs)) (List.Perm.refl _) (fun v117 J118 M119 hq120 hJ121 => ?_)
      replace hle := hle.trans hJ121
      obtain ⟨rfl, rfl⟩ := hq120
      refine at_end ?_
      refine at_thn ?_
      by_cases h122 : b8 = true
      · rw [if_pos h122] at H
        refine at_cond_t rfl (h122) ?_
        refine at_seq ?_
        refine at_reg [] [2] (L2 := [(2, .int .i64 2)]) (obs := []) (by kernel_rfl) ?_ ?_
        · intro w hs; exact trivial
        refine at_thn ?_
        refine at_ret ?_
        refine at_then_ret ?_
        obtain rfl := Option.some.inj H
        refine at_done (vs := [.int .i64 2]) (obs := []) (.inl rfl) [.tmp 2] [] rfl (by kernel_rfl) (fun w hs => trivial) (fun w hs => ⟨_, _, [], rfl, ⟨rfl, rfl⟩, hle, hs⟩)
      · rw [if_neg h122] at H
        refine at_cond_f rfl (ff_of h122) ?_
        refine at_skip ?_
        refine at_thn ?_
        refine at_seq ?_
        refine at_seq ?_
        refine at_ops [0, 1, 2, 3, 4, 5, 6, 7, 8] rfl ?_
        refine at_seg [0, 1, 2, 3, 4, 5] [6, 7, 8] rfl [] [0, 14, 15, 16, 17, 18, 19] (L2 := [(0, .int .i64 p101), (14, .agg #[.int .i64 4352, .int .i64 4447]), (15, .agg #[.int .i64 11904, .int .i64 42191]), (16, .agg #[.int .i64 44032, .int .i64 55203]), (17, .agg #[.int .i64 63744, .int .i64 64255]), (18, .agg #[.int .i64 65281, .int .i64 65376]), (19, .agg #[.int .i64 127744, .int .i64 129791])]) (obs := []) (by kernel_rfl) ?_ ?_
        · intro w hs; exact trivial
        refine at_eff rfl rfl ?_
        refine eff_buildSlice (e := 107) (cells := #[.int .i64 4352, .int .i64 4447, .int .i64 11904, .int .i64 42191, .int .i64 44032, .int .i64 55203, .int .i64 63744, .int .i64 64255, .int .i64 65281, .int .i64 65376, .int .i64 127744, .int .i64 129791]) ([(⟨4352, 4447⟩ : T_anon107), (⟨11904, 42191⟩ : T_anon107), (⟨44032, 55203⟩ : T_anon107), (⟨63744, 64255⟩ : T_anon107), (⟨65281, 65376⟩ : T_anon107), (⟨127744, 129791⟩ : T_anon107)] : List T_anon107).length rfl rfl rfl (by kernel_rfl) (fun g123 => ?_)
        have ho124 := own_lit (K := k_anon107) (e := 107) (I := J118) (xs := ([(⟨4352, 4447⟩ : T_anon107), (⟨11904, 42191⟩ : T_anon107), (⟨44032, 55203⟩ : T_anon107), (⟨63744, 64255⟩ : T_anon107), (⟨65281, 65376⟩ : T_anon107), (⟨127744, 129791⟩ : T_anon107)] : List T_anon107)) (css := [[.int .i64 4352, .int .i64 4447], [.int .i64 11904, .int .i64 42191], [.int .i64 44032, .int .i64 55203], [.int .i64 63744, .int .i64 64255], [.int .i64 65281, .int .i64 65376], [.int .i64 127744, .int .i64 129791]]) (cells := #[.int .i64 4352, .int .i64 4447, .int .i64 11904, .int .i64 42191, .int .i64 44032, .int .i64 55203, .int .i64 63744, .int .i64 64255, .int .i64 65281, .int .i64 65376, .int .i64 127744, .int .i64 129791]) (b := g123) ⟨rfl, ⟨rfl, ⟨rfl, ⟨rfl, ⟨rfl, ⟨rfl, trivial⟩⟩⟩⟩⟩⟩ rfl
        refine at_seg [7, 8] [] rfl [] [0, 20, 21, 22] (L2 := [(0, .int .i64 p101), (20, .slice (some ⟨g123, 0, none⟩ : Option Addr) ([(⟨4352, 4447⟩ : T_anon107), (⟨11904, 42191⟩ : T_anon107), (⟨44032, 55203⟩ : T_anon107), (⟨63744, 64255⟩ : T_anon107), (⟨65281, 65376⟩ : T_anon107), (⟨127744, 129791⟩ : T_anon107)] : List T_anon107).length (([(⟨4352, 4447⟩ : T_anon107), (⟨11904, 42191⟩ : T_anon107), (⟨44032, 55203⟩ : T_anon107), (⟨63744, 64255⟩ : T_anon107), (⟨65281, 65376⟩ : T_anon107), (⟨127744, 129791⟩ : T_anon107)] : List T_anon107).length)), (21, .int .i64 (([(⟨4352, 4447⟩ : T_anon107), (⟨11904, 42191⟩ : T_anon107), (⟨44032, 55203⟩ : T_anon107), (⟨63744, 64255⟩ : T_anon107), (⟨65281, 65376⟩ : T_anon107), (⟨127744, 129791⟩ : T_anon107)] : List T_anon107).length : Int)), (22, .int .i64 0)]) (obs := []) (by kernel_rfl) ?_ ?_
        · intro w hs; exact trivial
        refine at_end ?_
        refine at_thn ?_
        refine at_block ?_
        refine at_keep [0, 20, 21, 22] (L2 := [(0, .int .i64 p101), (20, .slice (some ⟨g123, 0, none⟩ : Option Addr) ([(⟨4352, 4447⟩ : T_anon107), (⟨11904, 42191⟩ : T_anon107), (⟨44032, 55203⟩ : T_anon107), (⟨63744, 64255⟩ : T_anon107), (⟨65281, 65376⟩ : T_anon107), (⟨127744, 129791⟩ : T_anon107)] : List T_anon107).length (([(⟨4352, 4447⟩ : T_anon107), (⟨11904, 42191⟩ : T_anon107), (⟨44032, 55203⟩ : T_anon107), (⟨63744, 64255⟩ : T_anon107), (⟨65281, 65376⟩ : T_anon107), (⟨127744, 129791⟩ : T_anon107)] : List T_anon107).length)), (21, .int .i64 (([(⟨4352, 4447⟩ : T_anon107), (⟨11904, 42191⟩ : T_anon107), (⟨44032, 55203⟩ : T_anon107), (⟨63744, 64255⟩ : T_anon107), (⟨65281, 65376⟩ : T_anon107), (⟨127744, 129791⟩ : T_anon107)] : List T_anon107).length : Int)), (22, .int .i64 0)]) rfl ?_
        refine at_loop (fun k126 L I Ms => ∃ (x125 : Int), L = [(0, .int .i64 p101), (20, .slice (some ⟨g123, 0, none⟩ : Option Addr) ([(⟨4352, 4447⟩ : T_anon107), (⟨11904, 42191⟩ : T_anon107), (⟨44032, 55203⟩ : T_anon107), (⟨63744, 64255⟩ : T_anon107), (⟨65281, 65376⟩ : T_anon107), (⟨127744, 129791⟩ : T_anon107)] : List T_anon107).length (([(⟨4352, 4447⟩ : T_anon107), (⟨11904, 42191⟩ : T_anon107), (⟨44032, 55203⟩ : T_anon107), (⟨63744, 64255⟩ : T_anon107), (⟨65281, 65376⟩ : T_anon107), (⟨127744, 129791⟩ : T_anon107)] : List T_anon107).length)), (21, .int .i64 (([(⟨4352, 4447⟩ : T_anon107), (⟨11904, 42191⟩ : T_anon107), (⟨44032, 55203⟩ : T_anon107), (⟨63744, 64255⟩ : T_anon107), (⟨65281, 65376⟩ : T_anon107), (⟨127744, 129791⟩ : T_anon107)] : List T_anon107).length : Int)), (22, .int .i64 x125)] ∧ Ms = ([(g123, .cells #[.int .i64 4352, .int .i64 4447, .int .i64 11904, .int .i64 42191, .int .i64 44032, .int .i64 55203, .int .i64 63744, .int .i64 64255, .int .i64 65281, .int .i64 65376, .int .i64 127744, .int .i64 129791] 107 (0, 0))] :: Fs) ∧ impl_WidthOf_l0 k126 x125 p101 = some r ∧ ImmLe I0 I ∧ k126 ≤ k ∧ Own k_anon107 107 I (some ⟨g123, 0, none⟩ : Option Addr) (([(⟨4352, 4447⟩ : T_anon107), (⟨11904, 42191⟩ : T_anon107), (⟨44032, 55203⟩ : T_anon107), (⟨63744, 64255⟩ : T_anon107), (⟨65281, 65376⟩ : T_anon107), (⟨127744, 129791⟩ : T_anon107)] : List T_anon107).length) ([(⟨4352, 4447⟩ : T_anon107), (⟨11904, 42191⟩ : T_anon107), (⟨44032, 55203⟩ : T_anon107), (⟨63744, 64255⟩ : T_anon107), (⟨65281, 65376⟩ : T_anon107), (⟨127744, 129791⟩ : T_anon107)] : List T_anon107) [(g123, .cells #[.int .i64 4352, .int .i64 4447, .int .i64 11904, .int .i64 42191, .int .i64 44032, .int .i64 55203, .int .i64 63744, .int .i64 64255, .int .i64 65281, .int .i64 65376, .int .i64 127744, .int .i64 129791] 107 (0, 0))]) ?_ ?_ k ⟨0, rfl, rfl, H, hle, Nat.le_refl _, ho124⟩
        · rintro L I Ms ⟨_, rfl, rfl, H, _⟩; exact no_none H
        · clear H hle ho124
          intro k126 ih127 L I Ms h_; obtain ⟨x125, hL_, hM_, H, hle, hk128, ho124⟩ := h_; rw [hL_, hM_]; clear hL_ hM_ L Ms
          rw [impl_WidthOf_l0] at H
          refine at_seq ?_
          refine at_reg [] [0, 20, 21, 22, 23] (L2 := [(0, .int .i64 p101), (20, .slice (some ⟨g123, 0, none⟩ : Option Addr) ([(⟨4352, 4447⟩ : T_anon107), (⟨11904, 42191⟩ : T_anon107), (⟨44032, 55203⟩ : T_anon107), (⟨63744, 64255⟩ : T_anon107), (⟨65281, 65376⟩ : T_anon107), (⟨127744, 129791⟩ : T_anon107)] : List T_anon107).length (([(⟨4352, 4447⟩ : T_anon107), (⟨11904, 42191⟩ : T_anon107), (⟨44032, 55203⟩ : T_anon107), (⟨63744, 64255⟩ : T_anon107), (⟨65281, 65376⟩ : T_anon107), (⟨127744, 129791⟩ : T_anon107)] : List T_anon107).length)), (21, .int .i64 (([(⟨4352, 4447⟩ : T_anon107), (⟨11904, 42191⟩ : T_anon107), (⟨44032, 55203⟩ : T_anon107), (⟨63744, 64255⟩ : T_anon107), (⟨65281, 65376⟩ : T_anon107), (⟨127744, 129791⟩ : T_anon107)] : List T_anon107).length : Int)), (22, .int .i64 x125), (23, .bool (decide (x125 < (([(⟨4352, 4447⟩ : T_anon107), (⟨11904, 42191⟩ : T_anon107), (⟨44032, 55203⟩ : T_anon107), (⟨63744, 64255⟩ : T_anon107), (⟨65281, 65376⟩ : T_anon107), (⟨127744, 129791⟩ : T_anon107)] : List T_anon107).length : Int))))]) (obs := []) (by kernel_rfl) ?_ ?_
          · intro w hs; exact trivial
          refine at_thn ?_
          refine at_seq ?_
          by_cases h129 : x125 < (([(⟨4352, 4447⟩ : T_anon107), (⟨11904, 42191⟩ : T_anon107), (⟨44032, 55203⟩ : T_anon107), (⟨63744, 64255⟩ : T_anon107), (⟨65281, 65376⟩ : T_anon107), (⟨127744, 129791⟩ : T_anon107)] : List T_anon107).length : Int)
          · rw [if_pos h129] at H
            refine at_cond_t rfl (decide_eq_true h129) ?_
            refine at_skip ?_
            refine at_thn ?_
            refine at_seq ?_
            refine at_block ?_
            refine at_seq ?_
            refine at_ops [0, 1, 2, 3] rfl ?_
            obtain ⟨h130, H⟩ := ite_some H
            obtain ⟨cs132, hz133, hc131⟩ := ho124.elem z_anon107 x125 h130 h129
            obtain rfl := hz133
            refine at_seg [0, 1] [2, 3] rfl [(1, .agg #[.int .i64 ((rdA z_anon107 ([(⟨4352, 4447⟩ : T_anon107), (⟨11904, 42191⟩ : T_anon107), (⟨44032, 55203⟩ : T_anon107), (⟨63744, 64255⟩ : T_anon107), (⟨65281, 65376⟩ : T_anon107), (⟨127744, 129791⟩ : T_anon107)] : List T_anon107) x125).e0), .int .i64 ((rdA z_anon107 ([(⟨4352, 4447⟩ : T_anon107), (⟨11904, 42191⟩ : T_anon107), (⟨44032, 55203⟩ : T_anon107), (⟨63744, 64255⟩ : T_anon107), (⟨65281, 65376⟩ : T_anon107), (⟨127744, 129791⟩ : T_anon107)] : List T_anon107) x125).e1)])] [0, 20, 21, 22, 25] (L2 := [(0, .int .i64 p101), (20, .slice (some ⟨g123, 0, none⟩ : Option Addr) ([(⟨4352, 4447⟩ : T_anon107), (⟨11904, 42191⟩ : T_anon107), (⟨44032, 55203⟩ : T_anon107), (⟨63744, 64255⟩ : T_anon107), (⟨65281, 65376⟩ : T_anon107), (⟨127744, 129791⟩ : T_anon107)] : List T_anon107).length (([(⟨4352, 4447⟩ : T_anon107), (⟨11904, 42191⟩ : T_anon107), (⟨44032, 55203⟩ : T_anon107), (⟨63744, 64255⟩ : T_anon107), (⟨65281, 65376⟩ : T_anon107), (⟨127744, 129791⟩ : T_anon107)] : List T_anon107).length)), (21, .int .i64 (([(⟨4352, 4447⟩ : T_anon107), (⟨11904, 42191⟩ : T_anon107), (⟨44032, 55203⟩ : T_anon107), (⟨63744, 64255⟩ : T_anon107), (⟨65281, 65376⟩ : T_anon107), (⟨127744, 129791⟩ : T_anon107)] : List T_anon107).length : Int)), (22, .int .i64 x125), (25, .agg #[.int .i64 ((rdA z_anon107 ([(⟨4352, 4447⟩ : T_anon107), (⟨11904, 42191⟩ : T_anon107), (⟨44032, 55203⟩ : T_anon107), (⟨63744, 64255⟩ : T_anon107), (⟨65281, 65376⟩ : T_anon107), (⟨127744, 129791⟩ : T_anon107)] : List T_anon107) x125).e0), .int .i64 ((rdA z_anon107 ([(⟨4352, 4447⟩ : T_anon107), (⟨11904, 42191⟩ : T_anon107), (⟨44032, 55203⟩ : T_anon107), (⟨63744, 64255⟩ : T_anon107), (⟨65281, 65376⟩ : T_anon107), (⟨127744, 129791⟩ : T_anon107)] : List T_anon107) x125).e1)])]) (obs := [fun _ => (some ⟨g123, 0, none⟩ : Option Addr).isSome = true ∧ 0 ≤ x125 ∧ x125 < ((([(⟨4352, 4447⟩ : T_anon107), (⟨11904, 42191⟩ : T_anon107), (⟨44032, 55203⟩ : T_anon107), (⟨63744, 64255⟩ : T_anon107), (⟨65281, 65376⟩ : T_anon107), (⟨127744, 129791⟩ : T_anon107)] : List T_anon107).length : Nat) : Int), fun w => CellsAt w (((some ⟨g123, 0, none⟩ : Option Addr).getD ad0).add (x125.toNat * 2)) [.int .i64 ((rdA z_anon107 ([(⟨4352, 4447⟩ : T_anon107), (⟨11904, 42191⟩ : T_anon107), (⟨44032, 55203⟩ : T_anon107), (⟨63744, 64255⟩ : T_anon107), (⟨65281, 65376⟩ : T_anon107), (⟨127744, 129791⟩ : T_anon107)] : List T_anon107) x125).e0), .int .i64 ((rdA z_anon107 ([(⟨4352, 4447⟩ : T_anon107), (⟨11904, 42191⟩ : T_anon107), (⟨44032, 55203⟩ : T_anon107), (⟨63744, 64255⟩ : T_anon107), (⟨65281, 65376⟩ : T_anon107), (⟨127744, 129791⟩ : T_anon107)] : List T_anon107) x125).e1)] 0]) (by kernel_rfl) ?_ ?_
            · intro w hs; exact ⟨⟨ho124.ne x125 h130 h129, h130, h129⟩, ⟨hc131 0 _ rfl hs (k := 0) rfl, hc131 1 _ rfl hs (k := 0) rfl, trivial⟩⟩
            refine at_eff rfl rfl ?_
            obtain ⟨i_, hi_, hz_, _, _⟩ := info107
            refine eff_alloc rfl rfl hi_ hz_ #[.int .i64 0, .int .i64 0] rfl (fun g134 => ?_)
            refine at_eff rfl rfl ?_
            refine eff_store 0 rfl rfl rfl rfl rfl rfl (.inl (Nat.le_refl _)) rfl (Nat.le_of_ble_eq_true (by kernel_rfl)) rfl ?_
            refine at_end ?_
            refine at_thn ?_
            refine at_seq ?_
            refine at_ops [0, 1, 2, 3, 4, 5] rfl ?_
            refine at_seg [0, 1, 2, 3, 4] [5] rfl [(2, .int .i64 ((rdA z_anon107 ([(⟨4352, 4447⟩ : T_anon107), (⟨11904, 42191⟩ : T_anon107), (⟨44032, 55203⟩ : T_anon107), (⟨63744, 64255⟩ : T_anon107), (⟨65281, 65376⟩ : T_anon107), (⟨127744, 129791⟩ : T_anon107)] : List T_anon107) x125).e0)), (4, .int .i64 ((rdA z_anon107 ([(⟨4352, 4447⟩ : T_anon107), (⟨11904, 42191⟩ : T_anon107), (⟨44032, 55203⟩ : T_anon107), (⟨63744, 64255⟩ : T_anon107), (⟨65281, 65376⟩ : T_anon107), (⟨127744, 129791⟩ : T_anon107)] : List T_anon107) x125).e1))] [0, 20, 21, 22, 26, 28, 30] (L2 := [(0, .int .i64 p101), (20, .slice (some ⟨g123, 0, none⟩ : Option Addr) ([(⟨4352, 4447⟩ : T_anon107), (⟨11904, 42191⟩ : T_anon107), (⟨44032, 55203⟩ : T_anon107), (⟨63744, 64255⟩ : T_anon107), (⟨65281, 65376⟩ : T_anon107), (⟨127744, 129791⟩ : T_anon107)] : List T_anon107).length (([(⟨4352, 4447⟩ : T_anon107), (⟨11904, 42191⟩ : T_anon107), (⟨44032, 55203⟩ : T_anon107), (⟨63744, 64255⟩ : T_anon107), (⟨65281, 65376⟩ : T_anon107), (⟨127744, 129791⟩ : T_anon107)] : List T_anon107).length)), (21, .int .i64 (([(⟨4352, 4447⟩ : T_anon107), (⟨11904, 42191⟩ : T_anon107), (⟨44032, 55203⟩ : T_anon107), (⟨63744, 64255⟩ : T_anon107), (⟨65281, 65376⟩ : T_anon107), (⟨127744, 129791⟩ : T_anon107)] : List T_anon107).length : Int)), (22, .int .i64 x125), (26, .int .i64 p101), (28, .int .i64 ((rdA z_anon107 ([(⟨4352, 4447⟩ : T_anon107), (⟨11904, 42191⟩ : T_anon107), (⟨44032, 55203⟩ : T_anon107), (⟨63744, 64255⟩ : T_anon107), (⟨65281, 65376⟩ : T_anon107), (⟨127744, 129791⟩ : T_anon107)] : List T_anon107) x125).e0)), (30, .int .i64 ((rdA z_anon107 ([(⟨4352, 4447⟩ : T_anon107), (⟨11904, 42191⟩ : T_anon107), (⟨44032, 55203⟩ : T_anon107), (⟨63744, 64255⟩ : T_anon107), (⟨65281, 65376⟩ : T_anon107), (⟨127744, 129791⟩ : T_anon107)] : List T_anon107) x125).e1))]) (obs := [fun _ => 0 ≤ (0 : Int) ∧ (0 : Int) < ((2 : Nat) : Int), fun w => w.cell? ⟨g134, 0, none⟩ = some (.int .i64 ((rdA z_anon107 ([(⟨4352, 4447⟩ : T_anon107), (⟨11904, 42191⟩ : T_anon107), (⟨44032, 55203⟩ : T_anon107), (⟨63744, 64255⟩ : T_anon107), (⟨65281, 65376⟩ : T_anon107), (⟨127744, 129791⟩ : T_anon107)] : List T_anon107) x125).e0)), fun _ => 0 ≤ (1 : Int) ∧ (1 : Int) < ((2 : Nat) : Int), fun w => w.cell? ⟨g134, 1, none⟩ = some (.int .i64 ((rdA z_anon107 ([(⟨4352, 4447⟩ : T_anon107), (⟨11904, 42191⟩ : T_anon107), (⟨44032, 55203⟩ : T_anon107), (⟨63744, 64255⟩ : T_anon107), (⟨65281, 65376⟩ : T_anon107), (⟨127744, 129791⟩ : T_anon107)] : List T_anon107) x125).e1))]) (by kernel_rfl) ?_ ?_
            · intro w hs; exact ⟨(by decide : 0 ≤ (0 : Int) ∧ (0 : Int) < ((2 : Nat) : Int)), hs.var (k := 0) rfl 0 rfl, (by decide : 0 ≤ (1 : Int) ∧ (1 : Int) < ((2 : Nat) : Int)), hs.var (k := 0) rfl 1 rfl⟩
            refine at_eff rfl rfl ?_
            obtain ⟨b9, H135, H⟩ := bind_some H
            have hm_ := impl_within.calls (I0 := I) H135
            refine eff_call rfl rfl ok59 rfl rfl (show Meets Try.prog 59 ([.int .i64 p101, .int .i64 ((rdA z_anon107 ([(⟨4352, 4447⟩ : T_anon107), (⟨11904, 42191⟩ : T_anon107), (⟨44032, 55203⟩ : T_anon107), (⟨63744, 64255⟩ : T_anon107), (⟨65281, 65376⟩ : T_anon107), (⟨127744, 129791⟩ : T_anon107)] : List T_anon107) x125).e0), .int .i64 ((rdA z_anon107 ([(⟨4352, 4447⟩ : T_anon107), (⟨11904, 42191⟩ : T_anon107), (⟨44032, 55203⟩ : T_anon107), (⟨63744, 64255⟩ : T_anon107), (⟨65281, 65376⟩ : T_anon107), (⟨127744, 129791⟩ : T_anon107)] : List T_anon107) x125).e1)] : List Value).toArray _ [] _ from hm_) (Mr := ([(g134, .cells #[.int .i64 ((rdA z_anon107 ([(⟨4352, 4447⟩ : T_anon107), (⟨11904, 42191⟩ : T_anon107), (⟨44032, 55203⟩ : T_anon107), (⟨63744, 64255⟩ : T_anon107), (⟨65281, 65376⟩ : T_anon107), (⟨127744, 129791⟩ : T_anon107)] : List T_anon107) x125).e0), .int .i64 ((rdA z_anon107 ([(⟨4352, 4447⟩ : T_anon107), (⟨11904, 42191⟩ : T_anon107), (⟨44032, 55203⟩ : T_anon107), (⟨63744, 64255⟩ : T_anon107), (⟨65281, 65376⟩ : T_anon107), (⟨127744, 129791⟩ : T_anon107)] : List T_anon107) x125).e1)] 107 (0, 0))] :: [(g123, .cells #[.int .i64 4352, .int .i64 4447, .int .i64 11904, .int .i64 42191, .int .i64 44032, .int .i64 55203, .int .i64 63744, .int .i64 64255, .int .i64 65281, .int .i64 65376, .int .i64 127744, .int .i64 129791] 107 (0, 0))] :: Fs)) (List.Perm.refl _) (fun v136 J137 M138 hq139 hJ140 => ?_)
            replace hle := hle.trans hJ140
            replace ho124 := ho124.mono hJ140
            obtain ⟨rfl, rfl⟩ := hq139
            refine at_end ?_
            refine at_thn ?_
            by_cases h141 : b9 = true
            · rw [if_pos h141] at H
              refine at_cond_t rfl (h141) ?_
              refine at_seq ?_
              refine at_reg [] [2] (L2 := [(2, .int .i64 2)]) (obs := []) (by kernel_rfl) ?_ ?_
              · intro w hs; exact trivial
              refine at_thn ?_
              refine at_ret ?_
              refine at_in_ret ?_
              refine at_then_ret ?_
              refine at_then_ret ?_
              refine at_in_ret ?_
              refine at_then_ret ?_
              obtain rfl := Option.some.inj H
              refine at_drop (k := 0) rfl rfl ?_
              refine at_drop (k := 0) rfl rfl ?_
              refine at_done (vs := [.int .i64 2]) (obs := []) (.inl rfl) [.tmp 2] [] rfl (by kernel_rfl) (fun w hs => trivial) (fun w hs => ⟨_, _, [], rfl, ⟨rfl, rfl⟩, hle, hs⟩)
            · rw [if_neg h141] at H
              refine at_cond_f rfl (ff_of h141) ?_
              refine at_skip ?_
              refine at_in_norm ?_
              refine at_thn ?_
              refine at_reg [] [0, 20, 21, 22] (L2 := [(0, .int .i64 p101), (20, .slice (some ⟨g123, 0, none⟩ : Option Addr) ([(⟨4352, 4447⟩ : T_anon107), (⟨11904, 42191⟩ : T_anon107), (⟨44032, 55203⟩ : T_anon107), (⟨63744, 64255⟩ : T_anon107), (⟨65281, 65376⟩ : T_anon107), (⟨127744, 129791⟩ : T_anon107)] : List T_anon107).length (([(⟨4352, 4447⟩ : T_anon107), (⟨11904, 42191⟩ : T_anon107), (⟨44032, 55203⟩ : T_anon107), (⟨63744, 64255⟩ : T_anon107), (⟨65281, 65376⟩ : T_anon107), (⟨127744, 129791⟩ : T_anon107)] : List T_anon107).length)), (21, .int .i64 (([(⟨4352, 4447⟩ : T_anon107), (⟨11904, 42191⟩ : T_anon107), (⟨44032, 55203⟩ : T_anon107), (⟨63744, 64255⟩ : T_anon107), (⟨65281, 65376⟩ : T_anon107), (⟨127744, 129791⟩ : T_anon107)] : List T_anon107).length : Int)), (22, .int .i64 (IntKind.i64.wrap (x125 + 1)))]) (obs := []) (by kernel_rfl) ?_ ?_
              · intro w hs; exact trivial
              refine at_thn ?_
              refine at_drop (k := 0) rfl rfl ?_
              refine at_keep [0, 20, 21, 22] (L2 := [(0, .int .i64 p101), (20, .slice (some ⟨g123, 0, none⟩ : Option Addr) ([(⟨4352, 4447⟩ : T_anon107), (⟨11904, 42191⟩ : T_anon107), (⟨44032, 55203⟩ : T_anon107), (⟨63744, 64255⟩ : T_anon107), (⟨65281, 65376⟩ : T_anon107), (⟨127744, 129791⟩ : T_anon107)] : List T_anon107).length (([(⟨4352, 4447⟩ : T_anon107), (⟨11904, 42191⟩ : T_anon107), (⟨44032, 55203⟩ : T_anon107), (⟨63744, 64255⟩ : T_anon107), (⟨65281, 65376⟩ : T_anon107), (⟨127744, 129791⟩ : T_anon107)] : List T_anon107).length)), (21, .int .i64 (([(⟨4352, 4447⟩ : T_anon107), (⟨11904, 42191⟩ : T_anon107), (⟨44032, 55203⟩ : T_anon107), (⟨63744, 64255⟩ : T_anon107), (⟨65281, 65376⟩ : T_anon107), (⟨127744, 129791⟩ : T_anon107)] : List T_anon107).length : Int)), (22, .int .i64 (IntKind.i64.wrap (x125 + 1)))]) rfl ?_
              exact ih127 _ (by omega) _ _ _ ⟨IntKind.i64.wrap (x125 + 1), rfl, rfl, H, hle, by omega, ho124⟩
          · rw [if_neg h129] at H
            refine at_cond_f rfl (decide_eq_false h129) ?_
            refine at_exit ?_
            refine at_then_exit ?_
            refine at_then_exit ?_
            refine at_in_hit ?_
            refine at_thn ?_
            refine at_seq ?_
            refine at_reg [] [2] (L2 := [(2, .int .i64 1)]) (obs := []) (by kernel_rfl) ?_ ?_
            · intro w hs; exact trivial
            refine at_thn ?_
            refine at_ret ?_
            obtain rfl := Option.some.inj H
            refine at_drop (k := 0) rfl rfl ?_
            refine at_done (vs := [.int .i64 1]) (obs := []) (.inl rfl) [.tmp 2] [] rfl (by kernel_rfl) (fun w hs => trivial) (fun w hs => ⟨_, _, [], rfl, ⟨rfl, rfl⟩, hle, hs⟩)
  · rw [if_neg h108] at H
    refine at_seg [2, 3, 4] [5, 6] rfl [(3, .bool true)] [0, 8, 9] (L2 := [(0, .int .i64 p101), (8, .bool true), (9, undef)]) (obs := [fun _ => (.bool (!b6) : Value) = .bool true]) (by kernel_rfl) ?_ ?_
    · intro w hs; exact congrArg Value.bool (not_tt (ff_of h108))
    refine at_seg [5, 6] [] rfl [] [0, 11] (L2 := [(0, .int .i64 p101), (11, .bool true)]) (obs := []) (by kernel_rfl) ?_ ?_
    · intro w hs; exact trivial
    refine at_end ?_
    refine at_thn ?_
    refine at_cond_t rfl (rfl) ?_
    refine at_seq ?_
    refine at_reg [] [2] (L2 := [(2, .int .i64 0)]) (obs := []) (by kernel_rfl) ?_ ?_
    · intro w hs; exact trivial
    refine at_thn ?_
    refine at_ret ?_
    refine at_then_ret ?_
    obtain rfl := Option.some.inj H
    refine at_done (vs := [.int .i64 0]) (obs := []) (.inl rfl) [.tmp 2] [] rfl (by kernel_rfl) (fun w hs => trivial) (fun w hs => ⟨_, _, [], rfl, ⟨rfl, rfl⟩, hle, hs⟩)

/-! ### loop.example/g00146/laws.szInt64S: function 76 -/
def laws_szInt64S (p31 : List Int) (p35 : Int) : Option Int := if (IntKind.i64.wrap (p35 - (p31.length : Int))) < 0 then (some (-1)) else (some (IntKind.i64.wrap (p35 - (p31.length : Int))))
set_option maxHeartbeats 4000000 in
set_option maxRecDepth 100000 in
theorem laws_szInt64S.calls {p31 : List Int} {p35 : Int} {r : Int} {I0 : Imm} {A32 : Option Addr} {c33 : Nat} (H : laws_szInt64S p31 p35 = some r) (hr34 : Rd (Kd.int .i64) I0 A32 c33 p31) :
    Meets Try.prog 76 ([.slice A32 p31.length c33, .int .i64 p35] : List Value).toArray I0 [] (fun v J M => v = .int .i64 r ∧ M = []) := by
  have hle := ImmLe.refl I0
  unfold laws_szInt64S at H
  refine fn_intro (fn := Try.f76) 12 Try.func76 rfl rfl rfl (fun E Fs => ?_)
  refine at_seq ?_
  refine at_reg [] [0, 1] (L2 := [(0, .slice A32 p31.length c33), (1, .int .i64 p35)]) (obs := []) (by kernel_rfl) ?_ ?_
  · intro w hs; exact trivial
  refine at_thn ?_
  refine at_seq ?_
  refine at_reg [] [1] (L2 := [(1, .int .i64 (IntKind.i64.wrap (p35 - (p31.length : Int))))]) (obs := []) (by kernel_rfl) ?_ ?_
  · intro w hs; exact trivial
  refine at_thn ?_
  refine at_seq ?_
  refine at_seq ?_
  refine at_reg [] [1, 10] (L2 := [(1, .int .i64 (IntKind.i64.wrap (p35 - (p31.length : Int)))), (10, .bool (decide ((IntKind.i64.wrap (p35 - (p31.length : Int))) < 0)))]) (obs := []) (by kernel_rfl) ?_ ?_
  · intro w hs; exact trivial
  refine at_thn ?_
  by_cases h36 : (IntKind.i64.wrap (p35 - (p31.length : Int))) < 0
  · rw [if_pos h36] at H
    refine at_cond_t rfl (decide_eq_true h36) ?_
    refine at_seq ?_
    refine at_reg [] [4] (L2 := [(4, .int .i64 (-1))]) (obs := []) (by kernel_rfl) ?_ ?_
    · intro w hs; exact trivial
    refine at_thn ?_
    refine at_ret ?_
    refine at_then_ret ?_
    obtain rfl := Option.some.inj H
    refine at_done (vs := [.int .i64 (-1)]) (obs := []) (.inl rfl) [.tmp 4] [] rfl (by kernel_rfl) (fun w hs => trivial) (fun w hs => ⟨_, _, [], rfl, ⟨rfl, rfl⟩, hle, hs⟩)
  · rw [if_neg h36] at H
    refine at_cond_f rfl (decide_eq_false h36) ?_
    refine at_skip ?_
    refine at_thn ?_
    refine at_seq ?_
    refine at_reg [] [4] (L2 := [(4, .int .i64 (IntKind.i64.wrap (p35 - (p31.length : Int))))]) (obs := []) (by kernel_rfl) ?_ ?_
    · intro w hs; exact trivial
    refine at_thn ?_
    refine at_ret ?_
    obtain rfl := Option.some.inj H
    refine at_done (vs := [.int .i64 (IntKind.i64.wrap (p35 - (p31.length : Int)))]) (obs := []) (.inl rfl) [.tmp 4] [] rfl (by kernel_rfl) (fun w hs => trivial) (fun w hs => ⟨_, _, [], rfl, ⟨rfl, rfl⟩, hle, hs⟩)

/-! ### loop.example/g00146/laws.szInt64SS: function 41 -/
def laws_szInt64SS_l0 : Nat → Int → Int → (List (List Int)) → Option Int
  | 0, _, _, _ => none
  | k + 1, x23, x24, p17 => if x24 < (p17.length : Int) then (if 0 ≤ x24 then ((laws_szInt64S (rdA [] p17 x24) x23).bind fun b1 => (if b1 < 0 then (some (-1)) else (laws_szInt64SS_l0 k b1 (IntKind.i64.wrap (x24 + 1)) p17))) else none) else (some x23)
def laws_szInt64SS (k : Nat) (p17 : List (List Int)) (p21 : Int) : Option Int := if (IntKind.i64.wrap (p21 - (p17.length : Int))) < 0 then (some (-1)) else (laws_szInt64SS_l0 k (IntKind.i64.wrap (p21 - (p17.length : Int))) 0 p17)
set_option maxHeartbeats 4000000 in
set_option maxRecDepth 100000 in
theorem laws_szInt64SS.calls {k : Nat} {p17 : List (List Int)} {p21 : Int} {r : Int} {I0 : Imm} {A18 : Option Addr} {c19 : Nat} (H : laws_szInt64SS k p17 p21 = some r) (hr20 : Rd (Kd.slice (Kd.int .i64)) I0 A18 c19 p17) :
    Meets Try.prog 41 ([.slice A18 p17.length c19, .int .i64 p21] : List Value).toArray I0 [] (fun v J M => v = .int .i64 r ∧ M = []) := by
  have hle := ImmLe.refl I0
  unfold laws_szInt64SS at H
  refine fn_intro (fn := Try.f41) 27 Try.func41 rfl rfl rfl (fun E Fs => ?_)
  refine at_seq ?_
  refine at_reg [] [0, 1] (L2 := [(0, .slice A18 p17.length c19), (1, .int .i64 p21)]) (obs := []) (by kernel_rfl) ?_ ?_
  · intro w hs; exact trivial
  refine at_thn ?_
  refine at_seq ?_
  refine at_reg [] [0, 1] (L2 := [(0, .slice A18 p17.length c19), (1, .int .i64 (IntKind.i64.wrap (p21 - (p17.length : Int))))]) (obs := []) (by kernel_rfl) ?_ ?_
  · intro w hs; exact trivial
  refine at_thn ?_
  refine at_seq ?_
  refine at_seq ?_
  refine at_reg [] [0, 1, 11] (L2 := [(0, .slice A18 p17.length c19), (1, .int .i64 (IntKind.i64.wrap (p21 - (p17.length : Int)))), (11, .bool (decide ((IntKind.i64.wrap (p21 - (p17.length : Int))) < 0)))]) (obs := []) (by kernel_rfl) ?_ ?_
  · intro w hs; exact trivial
  refine at_thn ?_
  by_cases h22 : (IntKind.i64.wrap (p21 - (p17.length : Int))) < 0
  · rw [if_pos h22] at H
    refine at_cond_t rfl (decide_eq_true h22) ?_
    refine at_seq ?_
    refine at_reg [] [4] (L2 := [(4, .int .i64 (-1))]) (obs := []) (by kernel_rfl) ?_ ?_
    · intro w hs; exact trivial
    refine at_thn ?_
    refine at_ret ?_
    refine at_then_ret ?_
    obtain rfl := Option.some.inj H
    refine at_done (vs := [.int .i64 (-1)]) (obs := []) (.inl rfl) [.tmp 4] [] rfl (by kernel_rfl) (fun w hs => trivial) (fun w hs => ⟨_, _, [], rfl, ⟨rfl, rfl⟩, hle, hs⟩)
  · rw [if_neg h22] at H
    refine at_cond_f rfl (decide_eq_false h22) ?_
    refine at_skip ?_
    refine at_thn ?_
    refine at_seq ?_
    refine at_seq ?_
    refine at_reg [] [0, 1, 5] (L2 := [(0, .slice A18 p17.length c19), (1, .int .i64 (IntKind.i64.wrap (p21 - (p17.length : Int)))), (5, .int .i64 0)]) (obs := []) (by kernel_rfl) ?_ ?_
    · intro w hs; exact trivial
    refine at_thn ?_
    refine at_block ?_
    refine at_keep [0, 1, 5] (L2 := [(0, .slice A18 p17.length c19), (1, .int .i64 (IntKind.i64.wrap (p21 - (p17.length : Int)))), (5, .int .i64 0)]) rfl ?_
    refine at_loop (fun k25 L I Ms => ∃ (x23 : Int) (x24 : Int), L = [(0, .slice A18 p17.length c19), (1, .int .i64 x23), (5, .int .i64 x24)] ∧ Ms = ([] ++ Fs) ∧ laws_szInt64SS_l0 k25 x23 x24 p17 = some r ∧ ImmLe I0 I ∧ k25 ≤ k ∧ Rd (Kd.slice (Kd.int .i64)) I A18 c19 p17) ?_ ?_ k ⟨IntKind.i64.wrap (p21 - (p17.length : Int)), 0, rfl, rfl, H, hle, Nat.le_refl _, hr20⟩
    · rintro L I Ms ⟨_, _, rfl, rfl, H, _⟩; exact no_none H
    · clear H hle hr20
      intro k25 ih26 L I Ms h_; obtain ⟨x23, x24, hL_, hM_, H, hle, hk27, hr20⟩ := h_; rw [hL_, hM_]; clear hL_ hM_ L Ms
      rw [laws_szInt64SS_l0] at H
      refine at_seq ?_
      refine at_seq ?_
      refine at_reg [] [0, 1, 5, 15] (L2 := [(0, .slice A18 p17.length c19), (1, .int .i64 x23), (5, .int .i64 x24), (15, .bool (decide (x24 < (p17.length : Int))))]) (obs := []) (by kernel_rfl) ?_ ?_
      · intro w hs; exact trivial
      refine at_thn ?_
      by_cases h28 : x24 < (p17.length : Int)
      · rw [if_pos h28] at H
        refine at_cond_t rfl (decide_eq_true h28) ?_
        refine at_skip ?_
        refine at_thn ?_
        refine at_seq ?_
        refine at_block ?_
        refine at_seq ?_
        refine at_ops [0, 1, 2, 3, 4, 5, 6] rfl ?_
        obtain ⟨h29, H⟩ := ite_some H
        obtain ⟨cs34, hz35, hc30⟩ := hr20.elem [] x24 h29 h28
        obtain ⟨A31, c32, rfl, hr33⟩ := hz35
        refine at_seg [0, 1, 2, 3, 4] [5, 6] rfl [(3, .slice A31 (rdA [] p17 x24).length c32)] [0, 1, 5, 21, 22] (L2 := [(0, .slice A18 p17.length c19), (1, .int .i64 x23), (5, .int .i64 x24), (21, .slice A31 (rdA [] p17 x24).length c32), (22, .int .i64 x23)]) (obs := [fun _ => A18.isSome = true ∧ 0 ≤ x24 ∧ x24 < ((p17.length : Nat) : Int), fun w => w.cell? ((A18.getD ad0).add (x24.toNat * 1)) = some (.slice A31 (rdA [] p17 x24).length c32)]) (by kernel_rfl) ?_ ?_
        · intro w hs; exact ⟨⟨hr20.ne x24 h29 h28, h29, h28⟩, cell0 (hc30 0 _ rfl hs)⟩
        refine at_eff rfl rfl ?_
        obtain ⟨b1, H36, H⟩ := bind_some H
        have hm_ := laws_szInt64S.calls (I0 := I) H36 hr33
        refine eff_call rfl rfl ok76 rfl rfl (show Meets Try.prog 76 ([.slice A31 (rdA [] p17 x24).length c32, .int .i64 x23] : List Value).toArray _ [] _ from hm_) (Mr := (Fs)) (List.Perm.refl _) (fun v37 J38 M39 hq40 hJ41 => ?_)
        replace hle := hle.trans hJ41
        replace hr20 := hr20.mono hJ41
        replace hr33 := hr33.mono hJ41
        obtain ⟨rfl, rfl⟩ := hq40
        refine at_seg [6] [] rfl [] [0, 1, 5] (L2 := [(0, .slice A18 p17.length c19), (1, .int .i64 b1), (5, .int .i64 x24)]) (obs := []) (by kernel_rfl) ?_ ?_
        · intro w hs; exact trivial
        refine at_end ?_
        refine at_thn ?_
        refine at_seq ?_
        refine at_reg [] [0, 1, 5, 25] (L2 := [(0, .slice A18 p17.length c19), (1, .int .i64 b1), (5, .int .i64 x24), (25, .bool (decide (b1 < 0)))]) (obs := []) (by kernel_rfl) ?_ ?_
        · intro w hs; exact trivial
        refine at_thn ?_
        by_cases h42 : b1 < 0
        · rw [if_pos h42] at H
          refine at_cond_t rfl (decide_eq_true h42) ?_
          refine at_seq ?_
          refine at_reg [] [4] (L2 := [(4, .int .i64 (-1))]) (obs := []) (by kernel_rfl) ?_ ?_
          · intro w hs; exact trivial
          refine at_thn ?_
          refine at_ret ?_
          refine at_in_ret ?_
          refine at_then_ret ?_
          refine at_then_ret ?_
          refine at_in_ret ?_
          refine at_then_ret ?_
          obtain rfl := Option.some.inj H
          refine at_done (vs := [.int .i64 (-1)]) (obs := []) (.inl rfl) [.tmp 4] [] rfl (by kernel_rfl) (fun w hs => trivial) (fun w hs => ⟨_, _, [], rfl, ⟨rfl, rfl⟩, hle, hs⟩)
        · rw [if_neg h42] at H
          refine at_cond_f rfl (decide_eq_false h42) ?_
          refine at_skip ?_
          refine at_in_norm ?_
          refine at_thn ?_
          refine at_reg [] [0, 1, 5] (L2 := [(0, .slice A18 p17.length c19), (1, .int .i64 b1), (5, .int .i64 (IntKind.i64.wrap (x24 + 1)))]) (obs := []) (by kernel_rfl) ?_ ?_
          · intro w hs; exact trivial
          refine at_thn ?_
          refine at_keep [0, 1, 5] (L2 := [(0, .slice A18 p17.length c19), (1, .int .i64 b1), (5, .int .i64 (IntKind.i64.wrap (x24 + 1)))]) rfl ?_
          exact ih26 _ (by omega) _ _ _ ⟨b1, IntKind.i64.wrap (x24 + 1), rfl, rfl, H, hle, by omega, hr20⟩
      · rw [if_neg h28] at H
        refine at_cond_f rfl (decide_eq_false h28) ?_
        refine at_exit ?_
        refine at_then_exit ?_
        refine at_then_exit ?_
        refine at_in_hit ?_
        refine at_thn ?_
        refine at_seq ?_
        refine at_reg [] [4] (L2 := [(4, .int .i64 x23)]) (obs := []) (by kernel_rfl) ?_ ?_
        · intro w hs; exact trivial
        refine at_thn ?_
        refine at_ret ?_
        obtain rfl := Option.some.inj H
        refine at_done (vs := [.int .i64 x23]) (obs := []) (.inl rfl) [.tmp 4] [] rfl (by kernel_rfl) (fun w hs => trivial) (fun w hs => ⟨_, _, [], rfl, ⟨rfl, rfl⟩, hle, hs⟩)

/-! ### loop.example/g00146/laws.szRing: function 12 -/
def laws_szRing (k : Nat) (p11 : T_laws_Ring) (p15 : Int) : Option Int := (laws_szInt64SS k p11.Items p15).bind fun b1 => (if b1 < 0 then (some (-1)) else (some b1))
set_option maxHeartbeats 4000000 in
set_option maxRecDepth 100000 in
theorem laws_szRing.calls {k : Nat} {p11 : T_laws_Ring} {p15 : Int} {r : Int} {I0 : Imm} {A12 : Option Addr} {c13 : Nat} (H : laws_szRing k p11 p15 = some r) (hr14 : Rd (Kd.slice (Kd.int .i64)) I0 A12 c13 p11.Items) :
    Meets Try.prog 12 ([.agg #[.slice A12 p11.Items.length c13, .int .i64 p11.At], .int .i64 p15] : List Value).toArray I0 [] (fun v J M => v = .int .i64 r ∧ M = []) := by
  have hle := ImmLe.refl I0
  unfold laws_szRing at H
  refine fn_intro (fn := Try.f12) 12 Try.func12 rfl rfl rfl (fun E Fs => ?_)
  refine at_seq ?_
  refine at_ops [0, 1] rfl ?_
  refine at_eff rfl rfl ?_
  refine eff_box rfl rfl rfl #[.slice A12 p11.Items.length c13, .int .i64 p11.At] rfl (fun g16 => ?_)
  refine at_seg [1] [] rfl [] [1, 2] (L2 := [(1, .int .i64 p15), (2, .pointer (some ⟨g16, 0, none⟩))]) (obs := []) (by kernel_rfl) ?_ ?_
  · intro w hs; exact trivial
  refine at_end ?_
  refine at_thn ?_
  refine at_seq ?_
  refine at_ops [0, 1, 2, 3, 4] rfl ?_
  refine at_seg [0, 1, 2] [3, 4] rfl [(1, .slice A12 p11.Items.length c13)] [1, 6, 7] (L2 := [(1, .int .i64 p15), (6, .slice A12 p11.Items.length c13), (7, .int .i64 p15)]) (obs := [fun w => w.cell? ⟨g16, 0, none⟩ = some (.slice A12 p11.Items.length c13)]) (by kernel_rfl) ?_ ?_
  · intro w hs; exact hs.var (k := 0) rfl 0 rfl
  refine at_eff rfl rfl ?_
  obtain ⟨b1, H17, H⟩ := bind_some H
  have hm_ := laws_szInt64SS.calls (I0 := I0) H17 hr14
  refine eff_call rfl rfl ok41 rfl rfl (show Meets Try.prog 41 ([.slice A12 p11.Items.length c13, .int .i64 p15] : List Value).toArray _ [] _ from hm_) (Mr := ([(g16, .cells #[.slice A12 p11.Items.length c13, .int .i64 p11.At] 36 (0, 0))] :: Fs)) (List.Perm.refl _) (fun v18 J19 M20 hq21 hJ22 => ?_)
  replace hle := hle.trans hJ22
  replace hr14 := hr14.mono hJ22
  obtain ⟨rfl, rfl⟩ := hq21
  refine at_seg [4] [] rfl [] [1] (L2 := [(1, .int .i64 b1)]) (obs := []) (by kernel_rfl) ?_ ?_
  · intro w hs; exact trivial
  refine at_end ?_
  refine at_thn ?_
  refine at_seq ?_
  refine at_seq ?_
  refine at_reg [] [1, 10] (L2 := [(1, .int .i64 b1), (10, .bool (decide (b1 < 0)))]) (obs := []) (by kernel_rfl) ?_ ?_
  · intro w hs; exact trivial
  refine at_thn ?_
  by_cases h23 : b1 < 0
  · rw [if_pos h23] at H
    refine at_cond_t rfl (decide_eq_true h23) ?_
    refine at_seq ?_
    refine at_reg [] [4] (L2 := [(4, .int .i64 (-1))]) (obs := []) (by kernel_rfl) ?_ ?_
    · intro w hs; exact trivial
    refine at_thn ?_
    refine at_ret ?_
    refine at_then_ret ?_
    obtain rfl := Option.some.inj H
    refine at_drop (k := 0) rfl rfl ?_
    refine at_done (vs := [.int .i64 (-1)]) (obs := []) (.inl rfl) [.tmp 4] [] rfl (by kernel_rfl) (fun w hs => trivial) (fun w hs => ⟨_, _, [], rfl, ⟨rfl, rfl⟩, hle, hs⟩)
  · rw [if_neg h23] at H
    refine at_cond_f rfl (decide_eq_false h23) ?_
    refine at_skip ?_
    refine at_thn ?_
    refine at_seq ?_
    refine at_reg [] [4] (L2 := [(4, .int .i64 b1)]) (obs := []) (by kernel_rfl) ?_ ?_
    · intro w hs; exact trivial
    refine at_thn ?_
    refine at_ret ?_
    obtain rfl := Option.some.inj H
    refine at_drop (k := 0) rfl rfl ?_
    refine at_done (vs := [.int .i64 b1]) (obs := []) (.inl rfl) [.tmp 4] [] rfl (by kernel_rfl) (fun w hs => trivial) (fun w hs => ⟨_, _, [], rfl, ⟨rfl, rfl⟩, hle, hs⟩)

/-! ### loop.example/g00146/laws.toInt64S: function 15 -/
def laws_toInt64S_l0 : Nat → (List Int) → Int → (List Int) → Option (List Int)
  | 0, _, _, _ => none
  | k + 1, x51, x56, p42 => if x56 < (p42.length : Int) then (if 0 ≤ x56 then (if x56 < (x51.length : Int) then (laws_toInt64S_l0 k (x51.set x56.toNat (rdA 0 p42 x56)) (IntKind.i64.wrap (x56 + 1)) p42) else none) else none) else (some x51)
def laws_toInt64S (k : Nat) (p42 : List Int) : Option (List Int) := if 0 ≤ (p42.length : Int) then (if (p42.length : Int) ≤ 35184372088832 then (laws_toInt64S_l0 k (List.replicate (p42.length : Int).toNat 0 : List Int) 0 p42) else none) else none
set_option maxHeartbeats 4000000 in
set_option maxRecDepth 100000 in
theorem laws_toInt64S.calls {k : Nat} {p42 : List Int} {r : (List Int)} {I0 : Imm} {A43 : Option Addr} {c44 : Nat} (H : laws_toInt64S k p42 = some r) (hr45 : Rd (Kd.int .i64) I0 A43 c44 p42) :
    Meets Try.prog 15 ([.slice A43 p42.length c44] : List Value).toArray I0 [] (fun v J M => ∃ (A_1 : Option Addr) (c_2 : Nat) (s_3 : Seg), v = .slice A_1 r.length c_2 ∧ M = [s_3] ∧ Own (Kd.int .i64) 2 J A_1 c_2 r s_3) := by
  have hle := ImmLe.refl I0
  unfold laws_toInt64S at H
  refine fn_intro (fn := Try.f15) 22 Try.func15 rfl rfl rfl (fun E Fs => ?_)
  refine at_seq ?_
  refine at_reg [] [0] (L2 := [(0, .slice A43 p42.length c44)]) (obs := []) (by kernel_rfl) ?_ ?_
  · intro w hs; exact trivial
  refine at_thn ?_
  refine at_seq ?_
  refine at_ops [0, 1, 2, 3] rfl ?_
  refine at_seg [0, 1] [2, 3] rfl [] [0, 6] (L2 := [(0, .slice A43 p42.length c44), (6, .int .i64 (p42.length : Int))]) (obs := []) (by kernel_rfl) ?_ ?_
  · intro w hs; exact trivial
  refine at_eff rfl rfl ?_
  obtain ⟨h46, H⟩ := ite_some H
  obtain ⟨h47, H⟩ := ite_some H
  obtain ⟨i_, hi_, hz_, hs_, hb_⟩ := info2
  refine eff_makeSlice (K := (Kd.int .i64)) (d := 0) rfl rfl rfl rfl und23 hi_ hz_ hs_ (fun _ => rfl) h46 (by rw [hb_]; omega) (by omega) (fun g48 s49 ho50 => ?_)
  refine at_seg [3] [] rfl [] [0, 3] (L2 := [(0, .slice A43 p42.length c44), (3, .slice (some ⟨g48, 0, none⟩ : Option Addr) (List.replicate (p42.length : Int).toNat 0 : List Int).length ((p42.length : Int).toNat))]) (obs := []) (by kernel_rfl) ?_ ?_
  · intro w hs; exact trivial
  refine at_end ?_
  refine at_thn ?_
  refine at_seq ?_
  refine at_seq ?_
  refine at_reg [] [0, 3, 4] (L2 := [(0, .slice A43 p42.length c44), (3, .slice (some ⟨g48, 0, none⟩ : Option Addr) (List.replicate (p42.length : Int).toNat 0 : List Int).length ((p42.length : Int).toNat)), (4, .int .i64 0)]) (obs := []) (by kernel_rfl) ?_ ?_
  · intro w hs; exact trivial
  refine at_thn ?_
  refine at_block ?_
  refine at_keep [0, 3, 4] (L2 := [(0, .slice A43 p42.length c44), (3, .slice (some ⟨g48, 0, none⟩ : Option Addr) (List.replicate (p42.length : Int).toNat 0 : List Int).length ((p42.length : Int).toNat)), (4, .int .i64 0)]) rfl ?_
  refine at_loop (fun k57 L I Ms => ∃ (x51 : List Int) (A52 : Option Addr) (c53 : Nat) (s54 : Seg) (x56 : Int), L = [(0, .slice A43 p42.length c44), (3, .slice A52 x51.length c53), (4, .int .i64 x56)] ∧ Ms = (s54 :: Fs) ∧ laws_toInt64S_l0 k57 x51 x56 p42 = some r ∧ ImmLe I0 I ∧ k57 ≤ k ∧ Own (Kd.int .i64) 2 I A52 c53 x51 s54 ∧ Rd (Kd.int .i64) I A43 c44 p42) ?_ ?_ k ⟨(List.replicate (p42.length : Int).toNat 0 : List Int), (some ⟨g48, 0, none⟩ : Option Addr), (p42.length : Int).toNat, s49, 0, rfl, rfl, H, hle, Nat.le_refl _, ho50, hr45⟩
  · rintro L I Ms ⟨_, _, _, _, _, rfl, rfl, H, _⟩; exact no_none H
  · clear H hle ho50 hr45
    intro k57 ih58 L I Ms h_; obtain ⟨x51, A52, c53, s54, x56, hL_, hM_, H, hle, hk59, ho55, hr45⟩ := h_; rw [hL_, hM_]; clear hL_ hM_ L Ms
    rw [laws_toInt64S_l0] at H
    refine at_seq ?_
    refine at_seq ?_
    refine at_reg [] [0, 3, 4, 11] (L2 := [(0, .slice A43 p42.length c44), (3, .slice A52 x51.length c53), (4, .int .i64 x56), (11, .bool (decide (x56 < (p42.length : Int))))]) (obs := []) (by kernel_rfl) ?_ ?_
    · intro w hs; exact trivial
    refine at_thn ?_
    by_cases h60 : x56 < (p42.length : Int)
    · rw [if_pos h60] at H
      refine at_cond_t rfl (decide_eq_true h60) ?_
      refine at_skip ?_
      refine at_thn ?_
      refine at_seq ?_
      refine at_block ?_
      refine at_ops [0, 1, 2, 3, 4, 5, 6, 7] rfl ?_
      obtain ⟨h61, H⟩ := ite_some H
      obtain ⟨h62, H⟩ := ite_some H
      refine at_seg [0, 1, 2, 3, 4, 5, 6] [7] rfl [(5, .int .i64 (rdA 0 p42 x56))] [0, 3, 4, 19, 20] (L2 := [(0, .slice A43 p42.length c44), (3, .slice A52 x51.length c53), (4, .int .i64 x56), (19, .int .i64 (rdA 0 p42 x56)), (20, .pointer (some ((A52.getD ad0).add (x56.toNat * 1))))]) (obs := [fun _ => A43.isSome = true ∧ 0 ≤ x56 ∧ x56 < ((p42.length : Nat) : Int), fun w => w.cell? ((A43.getD ad0).add (x56.toNat * 1)) = some (.int .i64 (rdA 0 p42 x56)), fun _ => A52.isSome = true ∧ 0 ≤ x56 ∧ x56 < ((x51.length : Nat) : Int)]) (by kernel_rfl) ?_ ?_
      · intro w hs; exact ⟨⟨hr45.ne x56 h61 h60, h61, h60⟩, hr45.one 0 x56 h61 h60 hs, ⟨ho55.ne x56 h61 h62, h61, h62⟩⟩
      refine at_eff rfl rfl ?_
      refine eff_storeOwn (K := (Kd.int .i64)) (u := rdA 0 p42 x56) 0 0 0 x56 rfl rfl rfl rfl ho55 rfl h61 h62 (add0 _).symm rfl (Nat.le_of_ble_eq_true (by kernel_rfl)) rfl (by rintro cs_ rfl; rfl) (fun s63 ho64 => ?_)
      refine at_eqL2 (L1 := [(0, .slice A43 p42.length c44), (3, .slice A52 x51.length c53), (4, .int .i64 x56), (19, .int .i64 (rdA 0 p42 x56)), (20, .pointer (some ((A52.getD ad0).add (x56.toNat * 1))))]) (L2 := [(0, .slice A43 p42.length c44), (3, .slice A52 (x51.set x56.toNat (rdA 0 p42 x56)).length c53), (4, .int .i64 x56), (19, .int .i64 (rdA 0 p42 x56)), (20, .pointer (some ((A52.getD ad0).add (x56.toNat * 1))))]) rfl (by simp only [List.length_set]) ?_
      refine at_end ?_
      refine at_in_norm ?_
      refine at_thn ?_
      refine at_reg [] [0, 3, 4] (L2 := [(0, .slice A43 p42.length c44), (3, .slice A52 (x51.set x56.toNat (rdA 0 p42 x56)).length c53), (4, .int .i64 (IntKind.i64.wrap (x56 + 1)))]) (obs := []) (by kernel_rfl) ?_ ?_
      · intro w hs; exact trivial
      refine at_thn ?_
      refine at_keep [0, 3, 4] (L2 := [(0, .slice A43 p42.length c44), (3, .slice A52 (x51.set x56.toNat (rdA 0 p42 x56)).length c53), (4, .int .i64 (IntKind.i64.wrap (x56 + 1)))]) rfl ?_
      exact ih58 _ (by omega) _ _ _ ⟨x51.set x56.toNat (rdA 0 p42 x56), A52, c53, s63, IntKind.i64.wrap (x56 + 1), rfl, rfl, H, hle, by omega, ho64, hr45⟩
    · rw [if_neg h60] at H
      refine at_cond_f rfl (decide_eq_false h60) ?_
      refine at_exit ?_
      refine at_then_exit ?_
      refine at_then_exit ?_
      refine at_in_hit ?_
      refine at_thn ?_
      refine at_seq ?_
      refine at_reg [] [2] (L2 := [(2, .slice A52 x51.length c53)]) (obs := []) (by kernel_rfl) ?_ ?_
      · intro w hs; exact trivial
      refine at_thn ?_
      refine at_ret ?_
      obtain rfl := Option.some.inj H
      refine at_done (vs := [.slice A52 x51.length c53]) (obs := []) (.inl rfl) [.tmp 2] [] rfl (by kernel_rfl) (fun w hs => trivial) (fun w hs => ⟨_, _, [s54], rfl, ⟨A52, c53, s54, rfl, rfl, ho55⟩, hle, hs⟩)
end Go.Proofs.Ytocfakbgefdgkaa
