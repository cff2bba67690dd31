import Derived.Test.YtgdbigafcjaohaaG10
namespace Go.Proofs.Ytgdbigafcjaohaa
open Go Eng
set_option linter.unusedVariables false
set_option linter.unusedSimpArgs false
/-! ### loop.example/g00146/laws.FnExactEdNames: function 3 -/
def laws_FnExactEdNames (k : Nat) : Option Bool := (spec_EdNames).bind fun b1 => ((impl_EdNames k).bind fun b2 => ((laws_eqStringS k b2 b1).bind fun b3 => (if b3 = true then ((laws_markStringS k b2 1).bind fun b4 => ((laws_heldStringS k b4.2 1).bind fun b5 => (if b5 < 0 then (some false) else (if b5 = b4.1 then ((impl_EdNames k).bind fun b6 => ((laws_eqStringS k b6 b1).bind fun b7 => (if b7 = true then ((laws_heldStringS k b4.2 1).bind fun b8 => (if b8 < 0 then (some false) else (if b8 = b4.1 then (some true) else (some false)))) else (some false)))) else (some false))))) else (some false))))
set_option maxHeartbeats 4000000 in
set_option maxRecDepth 100000 in
theorem laws_FnExactEdNames.calls {k : Nat} {r : Bool} {I0 : Imm} (H : laws_FnExactEdNames k = some r) :
    Meets Try.prog 3 ([] : List Value).toArray I0 [] (fun v J M => v = .bool r ∧ M = []) := by
  have hle := ImmLe.refl I0
  unfold laws_FnExactEdNames at H
  refine fn_intro (fn := Try.f3) 36 Try.func3 rfl rfl rfl (fun E Fs => ?_)
  refine at_seq ?_
  refine at_reg [] [] (L2 := []) (obs := []) (by kernel_rfl) ?_ ?_
  · intro w hs; exact trivial
  refine at_thn ?_
  refine at_seq ?_
  refine at_ops [0, 1] rfl ?_
  refine at_eff rfl rfl ?_
  obtain ⟨b1, H1, H⟩ := bind_some H
  have hm_ := spec_EdNames.calls (I0 := I0) H1
  refine eff_call rfl rfl ok5 rfl rfl (show Meets Try.prog 5 ([] : List Value).toArray _ [] _ from hm_) (Mr := (Fs)) (List.Perm.refl _) (fun v2 J3 M4 hq5 hJ6 => ?_)
  replace hle := hle.trans hJ6
  obtain ⟨A7, c8, s9, rfl, rfl, ho10⟩ := hq5
  refine at_seg [1] [] rfl [] [1] (L2 := [(1, .slice A7 b1.length c8)]) (obs := []) (by kernel_rfl) ?_ ?_
  · intro w hs; exact trivial
  refine at_end ?_
  refine at_thn ?_
  refine at_seq ?_
  refine at_ops [0, 1] rfl ?_
  refine at_eff rfl rfl ?_
  obtain ⟨b2, H11, H⟩ := bind_some H
  have hm_ := impl_EdNames.calls (I0 := J3) H11
  refine eff_call rfl rfl ok6 rfl rfl (show Meets Try.prog 6 ([] : List Value).toArray _ [] _ from hm_) (Mr := (s9 :: Fs)) (List.Perm.refl _) (fun v12 J13 M14 hq15 hJ16 => ?_)
  replace hle := hle.trans hJ16
  replace ho10 := ho10.mono hJ16
  obtain ⟨A17, c18, s19, rfl, rfl, ho20⟩ := hq15
  refine at_seg [1] [] rfl [] [1, 2] (L2 := [(1, .slice A7 b1.length c8), (2, .slice A17 b2.length c18)]) (obs := []) (by kernel_rfl) ?_ ?_
  · intro w hs; exact trivial
  refine at_end ?_
  refine at_thn ?_
  refine at_seq ?_
  refine at_seq ?_
  refine at_ops [0, 1, 2, 3] rfl ?_
  refine at_seg [0, 1] [2, 3] rfl [] [1, 2, 8, 9] (L2 := [(1, .slice A7 b1.length c8), (2, .slice A17 b2.length c18), (8, .slice A17 b2.length c18), (9, .slice A7 b1.length c8)]) (obs := []) (by kernel_rfl) ?_ ?_
  · intro w hs; exact trivial
  refine at_eff rfl rfl ?_
  obtain ⟨b3, H21, H⟩ := bind_some H
  refine eff_read rfl rfl (rv := .bool b3) (Ms' := (s19 :: s9 :: Fs)) ok7 rfl rfl ?_ ?_
  · refine Reads.lend (k := 0) rfl (fun J22 hJ23 hin24 => ?_)
    refine Reads.lend (k := 0) rfl (fun J25 hJ26 hin27 => ?_)
    exact Reads.of_meets (Mr := (Fs)) (show Meets Try.prog 7 ([.slice A17 b2.length c18, .slice A7 b1.length c8] : List Value).toArray J25 [] _ from laws_eqStringS.calls (I0 := J25) H21 (ho20.rd (hJ23.trans hJ26) (hin24.mono hJ26)) (ho10.rd (hJ23.trans hJ26) hin27)) (List.Perm.refl _)
  refine at_seg [3] [] rfl [] [1, 2, 11] (L2 := [(1, .slice A7 b1.length c8), (2, .slice A17 b2.length c18), (11, .bool (!b3))]) (obs := []) (by kernel_rfl) ?_ ?_
  · intro w hs; exact trivial
  refine at_end ?_
  refine at_thn ?_
  by_cases h28 : b3 = true
  · rw [if_pos h28] at H
    refine at_cond_f rfl (not_ff (h28)) ?_
    refine at_skip ?_
    refine at_thn ?_
    refine at_seq ?_
    refine at_reg [] [1, 2, 3] (L2 := [(1, .slice A7 b1.length c8), (2, .slice A17 b2.length c18), (3, .int .i64 1)]) (obs := []) (by kernel_rfl) ?_ ?_
    · intro w hs; exact trivial
    refine at_thn ?_
    refine at_seq ?_
    refine at_ops [0, 1, 2, 3] rfl ?_
    refine at_seg [0, 1] [2, 3] rfl [] [1, 2, 3, 12, 13] (L2 := [(1, .slice A7 b1.length c8), (2, .slice A17 b2.length c18), (3, .int .i64 1), (12, .slice A17 b2.length c18), (13, .int .i64 1)]) (obs := []) (by kernel_rfl) ?_ ?_
    · intro w hs; exact trivial
    refine at_eff rfl rfl ?_
    obtain ⟨b4, H29, H⟩ := bind_some H
    have hm_ := laws_markStringS.calls (I0 := J13) H29 ho20
    refine eff_call rfl rfl ok8 rfl rfl (show Meets Try.prog 8 ([.slice A17 b2.length c18, .int .i64 1] : List Value).toArray _ [s19] _ from hm_) (Mr := (s9 :: Fs)) (List.Perm.refl _) (fun v30 J31 M32 hq33 hJ34 => ?_)
    replace hle := hle.trans hJ34
    replace ho10 := ho10.mono hJ34
    replace ho20 := ho20.mono hJ34
    obtain ⟨s35, rfl, rfl, ho36, hl37⟩ := hq33
    refine at_keep [1, 2, 3, 12, 13, 14] (L2 := [(1, .slice A7 b1.length c8), (2, .slice A17 b2.length c18), (3, .int .i64 1), (12, .slice A17 b2.length c18), (13, .int .i64 1), (14, .int .i64 b4.1)]) rfl ?_
    refine at_eqL2 (L1 := [(1, .slice A7 b1.length c8), (2, .slice A17 b2.length c18), (3, .int .i64 1), (12, .slice A17 b2.length c18), (13, .int .i64 1), (14, .int .i64 b4.1)]) (L2 := [(1, .slice A7 b1.length c8), (2, .slice A17 b4.2.length c18), (3, .int .i64 1), (12, .slice A17 b4.2.length c18), (13, .int .i64 1), (14, .int .i64 b4.1)]) rfl (by rw [hl37]) ?_
    refine at_seg [3] [] rfl [] [1, 2, 3] (L2 := [(1, .slice A7 b1.length c8), (2, .slice A17 b4.2.length c18), (3, .int .i64 b4.1)]) (obs := []) (by kernel_rfl) ?_ ?_
    · intro w hs; exact trivial
    refine at_end ?_
    refine at_thn ?_
    refine at_seq ?_
    refine at_reg [] [1, 2, 3, 4] (L2 := [(1, .slice A7 b1.length c8), (2, .slice A17 b4.2.length c18), (3, .int .i64 b4.1), (4, .int .i64 1)]) (obs := []) (by kernel_rfl) ?_ ?_
    · intro w hs; exact trivial
    refine at_thn ?_
    refine at_seq ?_
    refine at_ops [0, 1, 2, 3] rfl ?_
    refine at_seg [0, 1] [2, 3] rfl [] [1, 2, 3, 4, 15, 16] (L2 := [(1, .slice A7 b1.length c8), (2, .slice A17 b4.2.length c18), (3, .int .i64 b4.1), (4, .int .i64 1), (15, .slice A17 b4.2.length c18), (16, .int .i64 1)]) (obs := []) (by kernel_rfl) ?_ ?_
    · intro w hs; exact trivial
    refine at_eff rfl rfl ?_
    obtain ⟨b5, H38, H⟩ := bind_some H
    refine eff_read rfl rfl (rv := .int .i64 b5) (Ms' := (s35 :: s9 :: Fs)) ok9 rfl rfl ?_ ?_
    · refine Reads.lend (k := 0) rfl (fun J39 hJ40 hin41 => ?_)
      exact Reads.of_meets (Mr := (s9 :: Fs)) (show Meets Try.prog 9 ([.slice A17 b4.2.length c18, .int .i64 1] : List Value).toArray J39 [] _ from laws_heldStringS.calls (I0 := J39) H38 (ho36.rd hJ40 hin41)) (List.Perm.refl _)
    refine at_seg [3] [] rfl [] [1, 2, 3, 4] (L2 := [(1, .slice A7 b1.length c8), (2, .slice A17 b4.2.length c18), (3, .int .i64 b4.1), (4, .int .i64 b5)]) (obs := []) (by kernel_rfl) ?_ ?_
    · intro w hs; exact trivial
    refine at_end ?_
    refine at_thn ?_
    refine at_seq ?_
    refine at_seq ?_
    refine at_reg [] [1, 2, 3, 4, 19] (L2 := [(1, .slice A7 b1.length c8), (2, .slice A17 b4.2.length c18), (3, .int .i64 b4.1), (4, .int .i64 b5), (19, .bool (decide (b5 < 0)))]) (obs := []) (by kernel_rfl) ?_ ?_
    · intro w hs; exact trivial
    refine at_thn ?_
    by_cases h42 : b5 < 0
    · rw [if_pos h42] at H
      refine at_cond_t rfl (decide_eq_true h42) ?_
      refine at_seq ?_
      refine at_reg [] [0] (L2 := [(0, .bool false)]) (obs := []) (by kernel_rfl) ?_ ?_
      · intro w hs; exact trivial
      refine at_thn ?_
      refine at_ret ?_
      refine at_then_ret ?_
      obtain rfl := Option.some.inj H
      refine at_drop (k := 0) rfl rfl ?_
      refine at_drop (k := 0) rfl rfl ?_
      refine at_done (vs := [.bool false]) (obs := []) (.inl rfl) [.tmp 0] [] rfl (by kernel_rfl) (fun w hs => trivial) (fun w hs => ⟨_, _, [], rfl, ⟨rfl, rfl⟩, hle, hs⟩)
    · rw [if_neg h42] at H
      refine at_cond_f rfl (decide_eq_false h42) ?_
      refine at_skip ?_
      refine at_thn ?_
      refine at_seq ?_
      refine at_seq ?_
      refine at_reg [] [1, 2, 3, 22] (L2 := [(1, .slice A7 b1.length c8), (2, .slice A17 b4.2.length c18), (3, .int .i64 b4.1), (22, .bool (b5 != b4.1))]) (obs := []) (by kernel_rfl) ?_ ?_
      · intro w hs; exact trivial
      refine at_thn ?_
      by_cases h43 : b5 = b4.1
      · rw [if_pos h43] at H
        refine at_cond_f rfl (bne_eq_false_iff_eq.2 h43) ?_
        refine at_skip ?_
        refine at_thn ?_
        refine at_seq ?_
        refine at_ops [0, 1] rfl ?_
        refine at_eff rfl rfl ?_
        obtain ⟨b6, H44, H⟩ := bind_some H
        have hm_ := impl_EdNames.calls (I0 := J31) H44
        refine eff_call rfl rfl ok6 rfl rfl (show Meets Try.prog 6 ([] : List Value).toArray _ [] _ from hm_) (Mr := (s35 :: s9 :: Fs)) (List.Perm.refl _) (fun v45 J46 M47 hq48 hJ49 => ?_)
        replace hle := hle.trans hJ49
        replace ho10 := ho10.mono hJ49
        replace ho36 := ho36.mono hJ49
        obtain ⟨A50, c51, s52, rfl, rfl, ho53⟩ := hq48
        refine at_seg [1] [] rfl [] [1, 2, 3, 5] (L2 := [(1, .slice A7 b1.length c8), (2, .slice A17 b4.2.length c18), (3, .int .i64 b4.1), (5, .slice A50 b6.length c51)]) (obs := []) (by kernel_rfl) ?_ ?_
        · intro w hs; exact trivial
        refine at_end ?_
        refine at_thn ?_
        refine at_seq ?_
        refine at_seq ?_
        refine at_ops [0, 1, 2, 3] rfl ?_
        refine at_seg [0, 1] [2, 3] rfl [] [2, 3, 24, 25] (L2 := [(2, .slice A17 b4.2.length c18), (3, .int .i64 b4.1), (24, .slice A50 b6.length c51), (25, .slice A7 b1.length c8)]) (obs := []) (by kernel_rfl) ?_ ?_
        · intro w hs; exact trivial
        refine at_eff rfl rfl ?_
        obtain ⟨b7, H54, H⟩ := bind_some H
        refine eff_read rfl rfl (rv := .bool b7) (Ms' := (s52 :: s9 :: s35 :: Fs)) ok7 rfl rfl ?_ ?_
        · refine Reads.lend (k := 0) rfl (fun J55 hJ56 hin57 => ?_)
          refine Reads.lend (k := 1) rfl (fun J58 hJ59 hin60 => ?_)
          exact Reads.of_meets (Mr := (s35 :: Fs)) (show Meets Try.prog 7 ([.slice A50 b6.length c51, .slice A7 b1.length c8] : List Value).toArray J58 [] _ from laws_eqStringS.calls (I0 := J58) H54 (ho53.rd (hJ56.trans hJ59) (hin57.mono hJ59)) (ho10.rd (hJ56.trans hJ59) hin60)) (List.Perm.refl _)
        refine at_seg [3] [] rfl [] [2, 3, 27] (L2 := [(2, .slice A17 b4.2.length c18), (3, .int .i64 b4.1), (27, .bool (!b7))]) (obs := []) (by kernel_rfl) ?_ ?_
        · intro w hs; exact trivial
        refine at_end ?_
        refine at_thn ?_
        by_cases h61 : b7 = true
        · rw [if_pos h61] at H
          refine at_cond_f rfl (not_ff (h61)) ?_
          refine at_skip ?_
          refine at_thn ?_
          refine at_seq ?_
          refine at_reg [] [2, 3, 4] (L2 := [(2, .slice A17 b4.2.length c18), (3, .int .i64 b4.1), (4, .int .i64 1)]) (obs := []) (by kernel_rfl) ?_ ?_
          · intro w hs; exact trivial
          refine at_thn ?_
          refine at_seq ?_
          refine at_ops [0, 1, 2, 3] rfl ?_
          refine at_seg [0, 1] [2, 3] rfl [] [3, 4, 28, 29] (L2 := [(3, .int .i64 b4.1), (4, .int .i64 1), (28, .slice A17 b4.2.length c18), (29, .int .i64 1)]) (obs := []) (by kernel_rfl) ?_ ?_
          · intro w hs; exact trivial
          refine at_eff rfl rfl ?_
          obtain ⟨b8, H62, H⟩ := bind_some H
          refine eff_read rfl rfl (rv := .int .i64 b8) (Ms' := (s35 :: s52 :: s9 :: Fs)) ok9 rfl rfl ?_ ?_
          · refine Reads.lend (k := 2) rfl (fun J63 hJ64 hin65 => ?_)
            exact Reads.of_meets (Mr := (s52 :: s9 :: Fs)) (show Meets Try.prog 9 ([.slice A17 b4.2.length c18, .int .i64 1] : List Value).toArray J63 [] _ from laws_heldStringS.calls (I0 := J63) H62 (ho36.rd hJ64 hin65)) (List.Perm.refl _)
          refine at_seg [3] [] rfl [] [3, 4] (L2 := [(3, .int .i64 b4.1), (4, .int .i64 b8)]) (obs := []) (by kernel_rfl) ?_ ?_
          · intro w hs; exact trivial
          refine at_end ?_
          refine at_thn ?_
          refine at_seq ?_
          refine at_seq ?_
          refine at_reg [] [3, 4, 32] (L2 := [(3, .int .i64 b4.1), (4, .int .i64 b8), (32, .bool (decide (b8 < 0)))]) (obs := []) (by kernel_rfl) ?_ ?_
          · intro w hs; exact trivial
          refine at_thn ?_
          by_cases h66 : b8 < 0
          · rw [if_pos h66] at H
            refine at_cond_t rfl (decide_eq_true h66) ?_
            refine at_seq ?_
            refine at_reg [] [0] (L2 := [(0, .bool false)]) (obs := []) (by kernel_rfl) ?_ ?_
            · intro w hs; exact trivial
            refine at_thn ?_
            refine at_ret ?_
            refine at_then_ret ?_
            obtain rfl := Option.some.inj H
            refine at_drop (k := 0) rfl rfl ?_
            refine at_drop (k := 0) rfl rfl ?_
            refine at_drop (k := 0) rfl rfl ?_
            refine at_done (vs := [.bool false]) (obs := []) (.inl rfl) [.tmp 0] [] rfl (by kernel_rfl) (fun w hs => trivial) (fun w hs => ⟨_, _, [], rfl, ⟨rfl, rfl⟩, hle, hs⟩)
          · rw [if_neg h66] at H
            refine at_cond_f rfl (decide_eq_false h66) ?_
            refine at_skip ?_
            refine at_thn ?_
            refine at_seq ?_
            refine at_seq ?_
            refine at_reg [] [35] (L2 := [(35, .bool (b8 != b4.1))]) (obs := []) (by kernel_rfl) ?_ ?_
            · intro w hs; exact trivial
            refine at_thn ?_
            by_cases h67 : b8 = b4.1
            · rw [if_pos h67] at H
              refine at_cond_f rfl (bne_eq_false_iff_eq.2 h67) ?_
              refine at_skip ?_
              refine at_thn ?_
              refine at_seq ?_
              refine at_reg [] [0] (L2 := [(0, .bool true)]) (obs := []) (by kernel_rfl) ?_ ?_
              · intro w hs; exact trivial
              refine at_thn ?_
              refine at_ret ?_
              obtain rfl := Option.some.inj H
              refine at_drop (k := 0) rfl rfl ?_
              refine at_drop (k := 0) rfl rfl ?_
              refine at_drop (k := 0) rfl rfl ?_
              refine at_done (vs := [.bool true]) (obs := []) (.inl rfl) [.tmp 0] [] rfl (by kernel_rfl) (fun w hs => trivial) (fun w hs => ⟨_, _, [], rfl, ⟨rfl, rfl⟩, hle, hs⟩)
            · rw [if_neg h67] at H
              refine at_cond_t rfl (bne_iff_ne.2 h67) ?_
              refine at_seq ?_
              refine at_reg [] [0] (L2 := [(0, .bool false)]) (obs := []) (by kernel_rfl) ?_ ?_
              · intro w hs; exact trivial
              refine at_thn ?_
              refine at_ret ?_
              refine at_then_ret ?_
              obtain rfl := Option.some.inj H
              refine at_drop (k := 0) rfl rfl ?_
              refine at_drop (k := 0) rfl rfl ?_
              refine at_drop (k := 0) rfl rfl ?_
              refine at_done (vs := [.bool false]) (obs := []) (.inl rfl) [.tmp 0] [] rfl (by kernel_rfl) (fun w hs => trivial) (fun w hs => ⟨_, _, [], rfl, ⟨rfl, rfl⟩, hle, hs⟩)
        · rw [if_neg h61] at H
          refine at_cond_t rfl (not_tt (ff_of h61)) ?_
          refine at_seq ?_
          refine at_reg [] [0] (L2 := [(0, .bool false)]) (obs := []) (by kernel_rfl) ?_ ?_
          · intro w hs; exact trivial
          refine at_thn ?_
          refine at_ret ?_
          refine at_then_ret ?_
          obtain rfl := Option.some.inj H
          refine at_drop (k := 0) rfl rfl ?_
          refine at_drop (k := 0) rfl rfl ?_
          refine at_drop (k := 0) rfl rfl ?_
          refine at_done (vs := [.bool false]) (obs := []) (.inl rfl) [.tmp 0] [] rfl (by kernel_rfl) (fun w hs => trivial) (fun w hs => ⟨_, _, [], rfl, ⟨rfl, rfl⟩, hle, hs⟩)
      · rw [if_neg h43] at H
        refine at_cond_t rfl (bne_iff_ne.2 h43) ?_
        refine at_seq ?_
        refine at_reg [] [0] (L2 := [(0, .bool false)]) (obs := []) (by kernel_rfl) ?_ ?_
        · intro w hs; exact trivial
        refine at_thn ?_
        refine at_ret ?_
        refine at_then_ret ?_
        obtain rfl := Option.some.inj H
        refine at_drop (k := 0) rfl rfl ?_
        refine at_drop (k := 0) rfl rfl ?_
        refine at_done (vs := [.bool false]) (obs := []) (.inl rfl) [.tmp 0] [] rfl (by kernel_rfl) (fun w hs => trivial) (fun w hs => ⟨_, _, [], rfl, ⟨rfl, rfl⟩, hle, hs⟩)
  · rw [if_neg h28] at H
    refine at_cond_t rfl (not_tt (ff_of h28)) ?_
    refine at_seq ?_
    refine at_reg [] [0] (L2 := [(0, .bool false)]) (obs := []) (by kernel_rfl) ?_ ?_
    · intro w hs; exact trivial
    refine at_thn ?_
    refine at_ret ?_
    refine at_then_ret ?_
    obtain rfl := Option.some.inj H
    refine at_drop (k := 0) rfl rfl ?_
    refine at_drop (k := 0) rfl rfl ?_
    refine at_done (vs := [.bool false]) (obs := []) (.inl rfl) [.tmp 0] [] rfl (by kernel_rfl) (fun w hs => trivial) (fun w hs => ⟨_, _, [], rfl, ⟨rfl, rfl⟩, hle, hs⟩)

/-! ### loop.example/g00146/spec.DeskWords: function 10 -/
def spec_DeskWords : Option (List (List UInt8)) := some ([([98, 105, 110, 100] : List UInt8), ([98, 117, 102] : List UInt8), ([99, 97, 110, 100] : List UInt8), ([100, 111] : List UInt8), ([107, 101, 121, 115] : List UInt8), ([108, 97, 116, 101] : List UInt8), ([108, 105, 110, 101, 115] : List UInt8), ([116, 121, 112, 101] : List UInt8), ([118, 105, 101, 119] : List UInt8), ([119, 105, 100, 103, 101, 116] : List UInt8)] : List (List UInt8))
set_option maxHeartbeats 4000000 in
set_option maxRecDepth 100000 in
theorem spec_DeskWords.calls {r : (List (List UInt8))} {I0 : Imm} (H : spec_DeskWords = some r) :
    Meets Try.prog 10 ([] : List Value).toArray I0 [] (fun v J M => ∃ (A_1 : Option Addr) (c_2 : Nat) (s_3 : Seg), v = .slice A_1 r.length c_2 ∧ M = [s_3] ∧ Own Kd.string 9 J A_1 c_2 r s_3) := by
  have hle := ImmLe.refl I0
  unfold spec_DeskWords at H
  refine fn_intro (fn := Try.f10) 2 Try.func10 rfl rfl rfl (fun E Fs => ?_)
  refine at_seq ?_
  refine at_reg [] [] (L2 := []) (obs := []) (by kernel_rfl) ?_ ?_
  · intro w hs; exact trivial
  refine at_thn ?_
  refine at_seq ?_
  refine at_ops [0, 1] rfl ?_
  refine at_eff rfl rfl ?_
  refine eff_buildSlice (e := 9) (cells := #[str ([98, 105, 110, 100] : List UInt8), str ([98, 117, 102] : List UInt8), str ([99, 97, 110, 100] : List UInt8), str ([100, 111] : List UInt8), str ([107, 101, 121, 115] : List UInt8), str ([108, 97, 116, 101] : List UInt8), str ([108, 105, 110, 101, 115] : List UInt8), str ([116, 121, 112, 101] : List UInt8), str ([118, 105, 101, 119] : List UInt8), str ([119, 105, 100, 103, 101, 116] : List UInt8)]) ([([98, 105, 110, 100] : List UInt8), ([98, 117, 102] : List UInt8), ([99, 97, 110, 100] : List UInt8), ([100, 111] : List UInt8), ([107, 101, 121, 115] : List UInt8), ([108, 97, 116, 101] : List UInt8), ([108, 105, 110, 101, 115] : List UInt8), ([116, 121, 112, 101] : List UInt8), ([118, 105, 101, 119] : List UInt8), ([119, 105, 100, 103, 101, 116] : List UInt8)] : List (List UInt8)).length rfl rfl rfl (by kernel_rfl) (fun g1 => ?_)
  have ho2 := own_lit (K := Kd.string) (e := 9) (I := I0) (xs := ([([98, 105, 110, 100] : List UInt8), ([98, 117, 102] : List UInt8), ([99, 97, 110, 100] : List UInt8), ([100, 111] : List UInt8), ([107, 101, 121, 115] : List UInt8), ([108, 97, 116, 101] : List UInt8), ([108, 105, 110, 101, 115] : List UInt8), ([116, 121, 112, 101] : List UInt8), ([118, 105, 101, 119] : List UInt8), ([119, 105, 100, 103, 101, 116] : List UInt8)] : List (List UInt8))) (css := [[str ([98, 105, 110, 100] : List UInt8)], [str ([98, 117, 102] : List UInt8)], [str ([99, 97, 110, 100] : List UInt8)], [str ([100, 111] : List UInt8)], [str ([107, 101, 121, 115] : List UInt8)], [str ([108, 97, 116, 101] : List UInt8)], [str ([108, 105, 110, 101, 115] : List UInt8)], [str ([116, 121, 112, 101] : List UInt8)], [str ([118, 105, 101, 119] : List UInt8)], [str ([119, 105, 100, 103, 101, 116] : List UInt8)]]) (cells := #[str ([98, 105, 110, 100] : List UInt8), str ([98, 117, 102] : List UInt8), str ([99, 97, 110, 100] : List UInt8), str ([100, 111] : List UInt8), str ([107, 101, 121, 115] : List UInt8), str ([108, 97, 116, 101] : List UInt8), str ([108, 105, 110, 101, 115] : List UInt8), str ([116, 121, 112, 101] : List UInt8), str ([118, 105, 101, 119] : List UInt8), str ([119, 105, 100, 103, 101, 116] : List UInt8)]) (b := g1) ⟨rfl, ⟨rfl, ⟨rfl, ⟨rfl, ⟨rfl, ⟨rfl, ⟨rfl, ⟨rfl, ⟨rfl, ⟨rfl, trivial⟩⟩⟩⟩⟩⟩⟩⟩⟩⟩ rfl
  refine at_seg [1] [] rfl [] [0] (L2 := [(0, .slice (some ⟨g1, 0, none⟩ : Option Addr) ([([98, 105, 110, 100] : List UInt8), ([98, 117, 102] : List UInt8), ([99, 97, 110, 100] : List UInt8), ([100, 111] : List UInt8), ([107, 101, 121, 115] : List UInt8), ([108, 97, 116, 101] : List UInt8), ([108, 105, 110, 101, 115] : List UInt8), ([116, 121, 112, 101] : List UInt8), ([118, 105, 101, 119] : List UInt8), ([119, 105, 100, 103, 101, 116] : List UInt8)] : List (List UInt8)).length (([([98, 105, 110, 100] : List UInt8), ([98, 117, 102] : List UInt8), ([99, 97, 110, 100] : List UInt8), ([100, 111] : List UInt8), ([107, 101, 121, 115] : List UInt8), ([108, 97, 116, 101] : List UInt8), ([108, 105, 110, 101, 115] : List UInt8), ([116, 121, 112, 101] : List UInt8), ([118, 105, 101, 119] : List UInt8), ([119, 105, 100, 103, 101, 116] : List UInt8)] : List (List UInt8)).length))]) (obs := []) (by kernel_rfl) ?_ ?_
  · intro w hs; exact trivial
  refine at_end ?_
  refine at_thn ?_
  refine at_ret ?_
  obtain rfl := Option.some.inj H
  refine at_done (vs := [.slice (some ⟨g1, 0, none⟩ : Option Addr) ([([98, 105, 110, 100] : List UInt8), ([98, 117, 102] : List UInt8), ([99, 97, 110, 100] : List UInt8), ([100, 111] : List UInt8), ([107, 101, 121, 115] : List UInt8), ([108, 97, 116, 101] : List UInt8), ([108, 105, 110, 101, 115] : List UInt8), ([116, 121, 112, 101] : List UInt8), ([118, 105, 101, 119] : List UInt8), ([119, 105, 100, 103, 101, 116] : List UInt8)] : List (List UInt8)).length (([([98, 105, 110, 100] : List UInt8), ([98, 117, 102] : List UInt8), ([99, 97, 110, 100] : List UInt8), ([100, 111] : List UInt8), ([107, 101, 121, 115] : List UInt8), ([108, 97, 116, 101] : List UInt8), ([108, 105, 110, 101, 115] : List UInt8), ([116, 121, 112, 101] : List UInt8), ([118, 105, 101, 119] : List UInt8), ([119, 105, 100, 103, 101, 116] : List UInt8)] : List (List UInt8)).length)]) (obs := []) (.inl rfl) [.tmp 0] [] rfl (by kernel_rfl) (fun w hs => trivial) (fun w hs => ⟨_, _, [[(g1, .cells #[str ([98, 105, 110, 100] : List UInt8), str ([98, 117, 102] : List UInt8), str ([99, 97, 110, 100] : List UInt8), str ([100, 111] : List UInt8), str ([107, 101, 121, 115] : List UInt8), str ([108, 97, 116, 101] : List UInt8), str ([108, 105, 110, 101, 115] : List UInt8), str ([116, 121, 112, 101] : List UInt8), str ([118, 105, 101, 119] : List UInt8), str ([119, 105, 100, 103, 101, 116] : List UInt8)] 9 (0, 0))]], rfl, ⟨(some ⟨g1, 0, none⟩ : Option Addr), ([([98, 105, 110, 100] : List UInt8), ([98, 117, 102] : List UInt8), ([99, 97, 110, 100] : List UInt8), ([100, 111] : List UInt8), ([107, 101, 121, 115] : List UInt8), ([108, 97, 116, 101] : List UInt8), ([108, 105, 110, 101, 115] : List UInt8), ([116, 121, 112, 101] : List UInt8), ([118, 105, 101, 119] : List UInt8), ([119, 105, 100, 103, 101, 116] : List UInt8)] : List (List UInt8)).length, [(g1, .cells #[str ([98, 105, 110, 100] : List UInt8), str ([98, 117, 102] : List UInt8), str ([99, 97, 110, 100] : List UInt8), str ([100, 111] : List UInt8), str ([107, 101, 121, 115] : List UInt8), str ([108, 97, 116, 101] : List UInt8), str ([108, 105, 110, 101, 115] : List UInt8), str ([116, 121, 112, 101] : List UInt8), str ([118, 105, 101, 119] : List UInt8), str ([119, 105, 100, 103, 101, 116] : List UInt8)] 9 (0, 0))], rfl, rfl, ho2⟩, hle, hs⟩)
end Go.Proofs.Ytgdbigafcjaohaa
