import Derived.Test.YtnhnipdanpcbeaaG8
namespace Go.Proofs.Ytnhnipdanpcbeaa
open Go Eng
set_option linter.unusedVariables false
set_option linter.unusedSimpArgs false
/-! ### loop.example/g00146/spec.WidthOf: function 69 -/
def spec_WidthOf_j0 : Nat → Int → Option Int
  | 0, _ => none
  | k + 1, p137 => if p137 < 32 then (some 2) else (if p137 = 127 then (some 2) else (if p137 ≥ 4352 then (if p137 ≤ 4447 then (some 2) else (if p137 ≥ 11904 then (if p137 ≤ 42191 then (some 2) else (if p137 ≥ 44032 then (if p137 ≤ 55203 then (some 2) else (if p137 ≥ 63744 then (if p137 ≤ 64255 then (some 2) else (if p137 ≥ 65281 then (if p137 ≤ 65376 then (some 2) else (if p137 ≥ 127744 then (if p137 ≤ 129791 then (some 2) else (some 1)) else (some 1))) else (if p137 ≥ 127744 then (if p137 ≤ 129791 then (some 2) else (some 1)) else (some 1)))) else (if p137 ≥ 65281 then (if p137 ≤ 65376 then (some 2) else (if p137 ≥ 127744 then (if p137 ≤ 129791 then (some 2) else (some 1)) else (some 1))) else (if p137 ≥ 127744 then (if p137 ≤ 129791 then (some 2) else (some 1)) else (some 1))))) else (if p137 ≥ 63744 then (if p137 ≤ 64255 then (some 2) else (if p137 ≥ 65281 then (if p137 ≤ 65376 then (some 2) else (if p137 ≥ 127744 then (if p137 ≤ 129791 then (some 2) else (some 1)) else (some 1))) else (if p137 ≥ 127744 then (if p137 ≤ 129791 then (some 2) else (some 1)) else (some 1)))) else (if p137 ≥ 65281 then (if p137 ≤ 65376 then (some 2) else (if p137 ≥ 127744 then (if p137 ≤ 129791 then (some 2) else (some 1)) else (some 1))) else (if p137 ≥ 127744 then (if p137 ≤ 129791 then (some 2) else (some 1)) else (some 1)))))) else (if p137 ≥ 44032 then (if p137 ≤ 55203 then (some 2) else (if p137 ≥ 63744 then (if p137 ≤ 64255 then (some 2) else (if p137 ≥ 65281 then (if p137 ≤ 65376 then (some 2) else (if p137 ≥ 127744 then (if p137 ≤ 129791 then (some 2) else (some 1)) else (some 1))) else (if p137 ≥ 127744 then (if p137 ≤ 129791 then (some 2) else (some 1)) else (some 1)))) else (if p137 ≥ 65281 then (if p137 ≤ 65376 then (some 2) else (if p137 ≥ 127744 then (if p137 ≤ 129791 then (some 2) else (some 1)) else (some 1))) else (if p137 ≥ 127744 then (if p137 ≤ 129791 then (some 2) else (some 1)) else (some 1))))) else (if p137 ≥ 63744 then (if p137 ≤ 64255 then (some 2) else (if p137 ≥ 65281 then (if p137 ≤ 65376 then (some 2) else (if p137 ≥ 127744 then (if p137 ≤ 129791 then (some 2) else (some 1)) else (some 1))) else (if p137 ≥ 127744 then (if p137 ≤ 129791 then (some 2) else (some 1)) else (some 1)))) else (if p137 ≥ 65281 then (if p137 ≤ 65376 then (some 2) else (if p137 ≥ 127744 then (if p137 ≤ 129791 then (some 2) else (some 1)) else (some 1))) else (if p137 ≥ 127744 then (if p137 ≤ 129791 then (some 2) else (some 1)) else (some 1))))))) else (if p137 ≥ 11904 then (if p137 ≤ 42191 then (some 2) else (if p137 ≥ 44032 then (if p137 ≤ 55203 then (some 2) else (if p137 ≥ 63744 then (if p137 ≤ 64255 then (some 2) else (if p137 ≥ 65281 then (if p137 ≤ 65376 then (some 2) else (if p137 ≥ 127744 then (if p137 ≤ 129791 then (some 2) else (some 1)) else (some 1))) else (if p137 ≥ 127744 then (if p137 ≤ 129791 then (some 2) else (some 1)) else (some 1)))) else (if p137 ≥ 65281 then (if p137 ≤ 65376 then (some 2) else (if p137 ≥ 127744 then (if p137 ≤ 129791 then (some 2) else (some 1)) else (some 1))) else (if p137 ≥ 127744 then (if p137 ≤ 129791 then (some 2) else (some 1)) else (some 1))))) else (if p137 ≥ 63744 then (if p137 ≤ 64255 then (some 2) else (if p137 ≥ 65281 then (if p137 ≤ 65376 then (some 2) else (if p137 ≥ 127744 then (if p137 ≤ 129791 then (some 2) else (some 1)) else (some 1))) else (if p137 ≥ 127744 then (if p137 ≤ 129791 then (some 2) else (some 1)) else (some 1)))) else (if p137 ≥ 65281 then (if p137 ≤ 65376 then (some 2) else (if p137 ≥ 127744 then (if p137 ≤ 129791 then (some 2) else (some 1)) else (some 1))) else (if p137 ≥ 127744 then (if p137 ≤ 129791 then (some 2) else (some 1)) else (some 1)))))) else (if p137 ≥ 44032 then (if p137 ≤ 55203 then (some 2) else (if p137 ≥ 63744 then (if p137 ≤ 64255 then (some 2) else (if p137 ≥ 65281 then (if p137 ≤ 65376 then (some 2) else (if p137 ≥ 127744 then (if p137 ≤ 129791 then (some 2) else (some 1)) else (some 1))) else (if p137 ≥ 127744 then (if p137 ≤ 129791 then (some 2) else (some 1)) else (some 1)))) else (if p137 ≥ 65281 then (if p137 ≤ 65376 then (some 2) else (if p137 ≥ 127744 then (if p137 ≤ 129791 then (some 2) else (some 1)) else (some 1))) else (if p137 ≥ 127744 then (if p137 ≤ 129791 then (some 2) else (some 1)) else (some 1))))) else (if p137 ≥ 63744 then (if p137 ≤ 64255 then (some 2) else (if p137 ≥ 65281 then (if p137 ≤ 65376 then (some 2) else (if p137 ≥ 127744 then (if p137 ≤ 129791 then (some 2) else (some 1)) else (some 1))) else (if p137 ≥ 127744 then (if p137 ≤ 129791 then (some 2) else (some 1)) else (some 1)))) else (if p137 ≥ 65281 then (if p137 ≤ 65376 then (some 2) else (if p137 ≥ 127744 then (if p137 ≤ 129791 then (some 2) else (some 1)) else (some 1))) else (if p137 ≥ 127744 then (if p137 ≤ 129791 then (some 2) else (some 1)) else (some 1))))))))
def spec_WidthOf (k : Nat) (p137 : Int) : Option Int := (spec_l01Point p137).bind fun b10 => (if b10 = true then (if p137 ≥ 768 then (if p137 ≤ 879 then (some 0) else (spec_WidthOf_j0 k p137)) else (spec_WidthOf_j0 k p137)) else (some 0))
set_option maxHeartbeats 4000000 in
set_option maxRecDepth 100000 in
theorem spec_WidthOf.calls {k : Nat} {p137 : Int} {r : Int} {I0 : Imm} (H : spec_WidthOf k p137 = some r) :
    Meets Try.prog 69 ([.int .i64 p137] : List Value).toArray I0 [] (fun v J M => v = .int .i64 r ∧ M = []) := by
  have hle := ImmLe.refl I0
  unfold spec_WidthOf at H
  refine fn_intro (fn := Try.f69) 68 Try.func69 rfl rfl rfl (fun E Fs => ?_)
  refine at_seq ?_
  refine at_reg [] [0] (L2 := [(0, .int .i64 p137)]) (obs := []) (by kernel_rfl) ?_ ?_
  · intro w hs; exact trivial
  refine at_thn ?_
  refine at_join (fun L I Ms => ∃ (k239 : Nat), L = [(0, .int .i64 p137)] ∧ Ms = ([] ++ Fs) ∧ spec_WidthOf_j0 k239 p137 = some r ∧ ImmLe I0 I ∧ k239 ≤ k) ?_ ?_
  · clear H hle
    intro L I Ms h_; obtain ⟨k239, hL_, hM_, H, hle, hk240⟩ := h_; rw [hL_, hM_]; clear hL_ hM_ L Ms
    rcases k239 with _ | k239
    · exact (no_none H).elim
    rw [spec_WidthOf_j0] at H
    refine at_seq ?_
    refine at_seq ?_
    by_cases h241 : p137 < 32
    · rw [if_pos h241] at H
      refine at_reg [(2, .bool true)] [67] (L2 := [(67, .bool true)]) (obs := [fun _ => (.bool (decide (p137 < 32)) : Value) = .bool true]) (by kernel_rfl) ?_ ?_
      · intro w hs; exact congrArg Value.bool (decide_eq_true h241)
      refine at_thn ?_
      refine at_cond_t rfl (rfl) ?_
      refine at_seq ?_
      refine at_reg [] [2] (L2 := [(2, .int .i64 2)]) (obs := []) (by kernel_rfl) ?_ ?_
      · intro w hs; exact trivial
      refine at_thn ?_
      refine at_ret ?_
      refine at_then_ret ?_
      obtain rfl := Option.some.inj H
      refine at_done (vs := [.int .i64 2]) (obs := []) (.inl rfl) [.tmp 2] [] rfl (by kernel_rfl) (fun w hs => trivial) (fun w hs => ⟨_, _, [], rfl, ⟨rfl, rfl⟩, hle, hs⟩)
    · rw [if_neg h241] at H
      by_cases h242 : p137 = 127
      · rw [if_pos h242] at H
        refine at_reg [(2, .bool false), (6, .bool true)] [67] (L2 := [(67, .bool true)]) (obs := [fun _ => (.bool (decide (p137 < 32)) : Value) = .bool false, fun _ => (.bool (p137 == 127) : Value) = .bool true]) (by kernel_rfl) ?_ ?_
        · intro w hs; exact ⟨congrArg Value.bool (decide_eq_false h241), congrArg Value.bool (beq_iff_eq.2 h242)⟩
        refine at_thn ?_
        refine at_cond_t rfl (rfl) ?_
        refine at_seq ?_
        refine at_reg [] [2] (L2 := [(2, .int .i64 2)]) (obs := []) (by kernel_rfl) ?_ ?_
        · intro w hs; exact trivial
        refine at_thn ?_
        refine at_ret ?_
        refine at_then_ret ?_
        obtain rfl := Option.some.inj H
        refine at_done (vs := [.int .i64 2]) (obs := []) (.inl rfl) [.tmp 2] [] rfl (by kernel_rfl) (fun w hs => trivial) (fun w hs => ⟨_, _, [], rfl, ⟨rfl, rfl⟩, hle, hs⟩)
      · rw [if_neg h242] at H
        by_cases h243 : p137 ≥ 4352
        · rw [if_pos h243] at H
          by_cases h244 : p137 ≤ 4447
          · rw [if_pos h244] at H
            refine at_reg [(2, .bool false), (6, .bool false), (9, .bool true), (14, .bool true)] [67] (L2 := [(67, .bool true)]) (obs := [fun _ => (.bool (decide (p137 < 32)) : Value) = .bool false, fun _ => (.bool (p137 == 127) : Value) = .bool false, fun _ => (.bool (decide (p137 ≥ 4352)) : Value) = .bool true, fun _ => (.bool (decide (p137 ≤ 4447)) : Value) = .bool true]) (by kernel_rfl) ?_ ?_
            · intro w hs; exact ⟨congrArg Value.bool (decide_eq_false h241), congrArg Value.bool (beq_eq_false_iff_ne.2 h242), congrArg Value.bool (decide_eq_true h243), congrArg Value.bool (decide_eq_true h244)⟩
            refine at_thn ?_
            refine at_cond_t rfl (rfl) ?_
            refine at_seq ?_
            refine at_reg [] [2] (L2 := [(2, .int .i64 2)]) (obs := []) (by kernel_rfl) ?_ ?_
            · intro w hs; exact trivial
            refine at_thn ?_
            refine at_ret ?_
            refine at_then_ret ?_
            obtain rfl := Option.some.inj H
            refine at_done (vs := [.int .i64 2]) (obs := []) (.inl rfl) [.tmp 2] [] rfl (by kernel_rfl) (fun w hs => trivial) (fun w hs => ⟨_, _, [], rfl, ⟨rfl, rfl⟩, hle, hs⟩)
          · rw [if_neg h244] at H
            by_cases h245 : p137 ≥ 11904
            · rw [if_pos h245] at H
              by_cases h246 : p137 ≤ 42191
              · rw [if_pos h246] at H
                refine at_reg [(2, .bool false), (6, .bool false), (9, .bool true), (14, .bool false), (17, .bool true), (22, .bool true)] [67] (L2 := [(67, .bool true)]) (obs := [fun _ => (.bool (decide (p137 < 32)) : Value) = .bool false, fun _ => (.bool (p137 == 127) : Value) = .bool false, fun _ => (.bool (decide (p137 ≥ 4352)) : Value) = .bool true, fun _ => (.bool (decide (p137 ≤ 4447)) : Value) = .bool false, fun _ => (.bool (decide (p137 ≥ 11904)) : Value) = .bool true, fun _ => (.bool (decide (p137 ≤ 42191)) : Value) = .bool true]) (by kernel_rfl) ?_ ?_
                · intro w hs; exact ⟨congrArg Value.bool (decide_eq_false h241), congrArg Value.bool (beq_eq_false_iff_ne.2 h242), congrArg Value.bool (decide_eq_true h243), congrArg Value.bool (decide_eq_false h244), congrArg Value.bool (decide_eq_true h245), congrArg Value.bool (decide_eq_true h246)⟩
                refine at_thn ?_
                refine at_cond_t rfl (rfl) ?_
                refine at_seq ?_
                refine at_reg [] [2] (L2 := [(2, .int .i64 2)]) (obs := []) (by kernel_rfl) ?_ ?_
                · intro w hs; exact trivial
                refine at_thn ?_
                refine at_ret ?_
                refine at_then_ret ?_
                obtain rfl := Option.some.inj H
                refine at_done (vs := [.int .i64 2]) (obs := []) (.inl rfl) [.tmp 2] [] rfl (by kernel_rfl) (fun w hs => trivial) (fun w hs => ⟨_, _, [], rfl, ⟨rfl, rfl⟩, hle, hs⟩)
              · rw [if_neg h246] at H
                by_cases h247 : p137 ≥ 44032
                · rw [if_pos h247] at H
                  by_cases h248 : p137 ≤ 55203
                  · rw [if_pos h248] at H
                    refine at_reg [(2, .bool false), (6, .bool false), (9, .bool true), (14, .bool false), (17, .bool true), (22, .bool false), (25, .bool true), (30, .bool true)] [67] (L2 := [(67, .bool true)]) (obs := [fun _ => (.bool (decide (p137 < 32)) : Value) = .bool false, fun _ => (.bool (p137 == 127) : Value) = .bool false, fun _ => (.bool (decide (p137 ≥ 4352)) : Value) = .bool true, fun _ => (.bool (decide (p137 ≤ 4447)) : Value) = .bool false, fun _ => (.bool (decide (p137 ≥ 11904)) : Value) = .bool true, fun _ => (.bool (decide (p137 ≤ 42191)) : Value) = .bool false, fun _ => (.bool (decide (p137 ≥ 44032)) : Value) = .bool true, fun _ => (.bool (decide (p137 ≤ 55203)) : Value) = .bool true]) (by kernel_rfl) ?_ ?_
                    · intro w hs; exact ⟨congrArg Value.bool (decide_eq_false h241), congrArg Value.bool (beq_eq_false_iff_ne.2 h242), congrArg Value.bool (decide_eq_true h243), congrArg Value.bool (decide_eq_false h244), congrArg Value.bool (decide_eq_true h245), congrArg Value.bool (decide_eq_false h246), congrArg Value.bool (decide_eq_true h247), congrArg Value.bool (decide_eq_true h248)⟩
                    refine at_thn ?_
                    refine at_cond_t rfl (rfl) ?_
                    refine at_seq ?_
                    refine at_reg [] [2] (L2 := [(2, .int .i64 2)]) (obs := []) (by kernel_rfl) ?_ ?_
                    · intro w hs; exact trivial
                    refine at_thn ?_
                    refine at_ret ?_
                    refine at_then_ret ?_
                    obtain rfl := Option.some.inj H
                    refine at_done (vs := [.int .i64 2]) (obs := []) (.inl rfl) [.tmp 2] [] rfl (by kernel_rfl) (fun w hs => trivial) (fun w hs => ⟨_, _, [], rfl, ⟨rfl, rfl⟩, hle, hs⟩)
                  · rw [if_neg h248] at H
                    by_cases h249 : p137 ≥ 63744
                    · rw [if_pos h249] at H
                      by_cases h250 : p137 ≤ 64255
                      · rw [if_pos h250] at H
                        refine at_reg [(2, .bool false), (6, .bool false), (9, .bool true), (14, .bool false), (17, .bool true), (22, .bool false), (25, .bool true), (30, .bool false), (33, .bool true), (38, .bool true)] [67] (L2 := [(67, .bool true)]) (obs := [fun _ => (.bool (decide (p137 < 32)) : Value) = .bool false, fun _ => (.bool (p137 == 127) : Value) = .bool false, fun _ => (.bool (decide (p137 ≥ 4352)) : Value) = .bool true, fun _ => (.bool (decide (p137 ≤ 4447)) : Value) = .bool false, fun _ => (.bool (decide (p137 ≥ 11904)) : Value) = .bool true, fun _ => (.bool (decide (p137 ≤ 42191)) : Value) = .bool false, fun _ => (.bool (decide (p137 ≥ 44032)) : Value) = .bool true, fun _ => (.bool (decide (p137 ≤ 55203)) : Value) = .bool false, fun _ => (.bool (decide (p137 ≥ 63744)) : Value) = .bool true, fun _ => (.bool (decide (p137 ≤ 64255)) : Value) = .bool true]) (by kernel_rfl) ?_ ?_
                        · intro w hs; exact ⟨congrArg Value.bool (decide_eq_false h241), congrArg Value.bool (beq_eq_false_iff_ne.2 h242), congrArg Value.bool (decide_eq_true h243), congrArg Value.bool (decide_eq_false h244), congrArg Value.bool (decide_eq_true h245), congrArg Value.bool (decide_eq_false h246), congrArg Value.bool (decide_eq_true h247), congrArg Value.bool (decide_eq_false h248), congrArg Value.bool (decide_eq_true h249), congrArg Value.bool (decide_eq_true h250)⟩
                        refine at_thn ?_
                        refine at_cond_t rfl (rfl) ?_
                        refine at_seq ?_
                        refine at_reg [] [2] (L2 := [(2, .int .i64 2)]) (obs := []) (by kernel_rfl) ?_ ?_
                        · intro w hs; exact trivial
                        refine at_thn ?_
                        refine at_ret ?_
                        refine at_then_ret ?_
                        obtain rfl := Option.some.inj H
                        refine at_done (vs := [.int .i64 2]) (obs := []) (.inl rfl) [.tmp 2] [] rfl (by kernel_rfl) (fun w hs => trivial) (fun w hs => ⟨_, _, [], rfl, ⟨rfl, rfl⟩, hle, hs⟩)
                      · rw [if_neg h250] at H
                        by_cases h251 : p137 ≥ 65281
                        · rw [if_pos h251] at H
                          by_cases h252 : p137 ≤ 65376
                          · rw [if_pos h252] at H
                            refine at_reg [(2, .bool false), (6, .bool false), (9, .bool true), (14, .bool false), (17, .bool true), (22, .bool false), (25, .bool true), (30, .bool false), (33, .bool true), (38, .bool false), (41, .bool true), (46, .bool true)] [67] (L2 := [(67, .bool true)]) (obs := [fun _ => (.bool (decide (p137 < 32)) : Value) = .bool false, fun _ => (.bool (p137 == 127) : Value) = .bool false, fun _ => (.bool (decide (p137 ≥ 4352)) : Value) = .bool true, fun _ => (.bool (decide (p137 ≤ 4447)) : Value) = .bool false, fun _ => (.bool (decide (p137 ≥ 11904)) : Value) = .bool true, fun _ => (.bool (decide (p137 ≤ 42191)) : Value) = .bool false, fun _ => (.bool (decide (p137 ≥ 44032)) : Value) = .bool true, fun _ => (.bool (decide (p137 ≤ 55203)) : Value) = .bool false, fun _ => (.bool (decide (p137 ≥ 63744)) : Value) = .bool true, fun _ => (.bool (decide (p137 ≤ 64255)) : Value) = .bool false, fun _ => (.bool (decide (p137 ≥ 65281)) : Value) = .bool true, fun _ => (.bool (decide (p137 ≤ 65376)) : Value) = .bool true]) (by kernel_rfl) ?_ ?_
                            · intro w hs; exact ⟨congrArg Value.bool (decide_eq_false h241), congrArg Value.bool (beq_eq_false_iff_ne.2 h242), congrArg Value.bool (decide_eq_true h243), congrArg Value.bool (decide_eq_false h244), congrArg Value.bool (decide_eq_true h245), congrArg Value.bool (decide_eq_false h246), congrArg Value.bool (decide_eq_true h247), congrArg Value.bool (decide_eq_false h248), congrArg Value.bool (decide_eq_true h249), congrArg Value.bool (decide_eq_false h250), congrArg Value.bool (decide_eq_true h251), congrArg Value.bool (decide_eq_true h252)⟩
                            refine at_thn ?_
                            refine at_cond_t rfl (rfl) ?_
                            refine at_seq ?_
                            refine at_reg [] [2] (L2 := [(2, .int .i64 2)]) (obs := []) (by kernel_rfl) ?_ ?_
                            · intro w hs; exact trivial
                            refine at_thn ?_
                            refine at_ret ?_
                            refine at_then_ret ?_
                            obtain rfl := Option.some.inj H
                            refine at_done (vs := [.int .i64 2]) (obs := []) (.inl rfl) [.tmp 2] [] rfl (by kernel_rfl) (fun w hs => trivial) (fun w hs => ⟨_, _, [], rfl, ⟨rfl, rfl⟩, hle, hs⟩)
                          · rw [if_neg h252] at H
                            by_cases h253 : p137 ≥ 127744
                            · rw [if_pos h253] at H
                              refine at_reg [(2, .bool false), (6, .bool false), (9, .bool true), (14, .bool false), (17, .bool true), (22, .bool false), (25, .bool true), (30, .bool false), (33, .bool true), (38, .bool false), (41, .bool true), (46, .bool false), (49, .bool true)] [67] (L2 := [(67, .bool (decide (p137 ≤ 129791)))]) (obs := [fun _ => (.bool (decide (p137 < 32)) : Value) = .bool false, fun _ => (.bool (p137 == 127) : Value) = .bool false, fun _ => (.bool (decide (p137 ≥ 4352)) : Value) = .bool true, fun _ => (.bool (decide (p137 ≤ 4447)) : Value) = .bool false, fun _ => (.bool (decide (p137 ≥ 11904)) : Value) = .bool true, fun _ => (.bool (decide (p137 ≤ 42191)) : Value) = .bool false, fun _ => (.bool (decide (p137 ≥ 44032)) : Value) = .bool true, fun _ => (.bool (decide (p137 ≤ 55203)) : Value) = .bool false, fun _ => (.bool (decide (p137 ≥ 63744)) : Value) = .bool true, fun _ => (.bool (decide (p137 ≤ 64255)) : Value) = .bool false, fun _ => (.bool (decide (p137 ≥ 65281)) : Value) = .bool true, fun _ => (.bool (decide (p137 ≤ 65376)) : Value) = .bool false, fun _ => (.bool (decide (p137 ≥ 127744)) : Value) = .bool true]) (by kernel_rfl) ?_ ?_
                              · intro w hs; exact ⟨congrArg Value.bool (decide_eq_false h241), congrArg Value.bool (beq_eq_false_iff_ne.2 h242), congrArg Value.bool (decide_eq_true h243), congrArg Value.bool (decide_eq_false h244), congrArg Value.bool (decide_eq_true h245), congrArg Value.bool (decide_eq_false h246), congrArg Value.bool (decide_eq_true h247), congrArg Value.bool (decide_eq_false h248), congrArg Value.bool (decide_eq_true h249), congrArg Value.bool (decide_eq_false h250), congrArg Value.bool (decide_eq_true h251), congrArg Value.bool (decide_eq_false h252), congrArg Value.bool (decide_eq_true h253)⟩
                              refine at_thn ?_
                              by_cases h254 : p137 ≤ 129791
                              · rw [if_pos h254] at H
                                refine at_cond_t rfl (decide_eq_true h254) ?_
                                refine at_seq ?_
                                refine at_reg [] [2] (L2 := [(2, .int .i64 2)]) (obs := []) (by kernel_rfl) ?_ ?_
                                · intro w hs; exact trivial
                                refine at_thn ?_
                                refine at_ret ?_
                                refine at_then_ret ?_
                                obtain rfl := Option.some.inj H
                                refine at_done (vs := [.int .i64 2]) (obs := []) (.inl rfl) [.tmp 2] [] rfl (by kernel_rfl) (fun w hs => trivial) (fun w hs => ⟨_, _, [], rfl, ⟨rfl, rfl⟩, hle, hs⟩)
                              · rw [if_neg h254] at H
                                refine at_cond_f rfl (decide_eq_false h254) ?_
                                refine at_skip ?_
                                refine at_thn ?_
                                refine at_seq ?_
                                refine at_reg [] [2] (L2 := [(2, .int .i64 1)]) (obs := []) (by kernel_rfl) ?_ ?_
                                · intro w hs; exact trivial
                                refine at_thn ?_
                                refine at_ret ?_
                                obtain rfl := Option.some.inj H
                                refine at_done (vs := [.int .i64 1]) (obs := []) (.inl rfl) [.tmp 2] [] rfl (by kernel_rfl) (fun w hs => trivial) (fun w hs => ⟨_, _, [], rfl, ⟨rfl, rfl⟩, hle, hs⟩)
                            · rw [if_neg h253] at H
                              refine at_reg [(2, .bool false), (6, .bool false), (9, .bool true), (14, .bool false), (17, .bool true), (22, .bool false), (25, .bool true), (30, .bool false), (33, .bool true), (38, .bool false), (41, .bool true), (46, .bool false), (49, .bool false)] [67] (L2 := [(67, .bool false)]) (obs := [fun _ => (.bool (decide (p137 < 32)) : Value) = .bool false, fun _ => (.bool (p137 == 127) : Value) = .bool false, fun _ => (.bool (decide (p137 ≥ 4352)) : Value) = .bool true, fun _ => (.bool (decide (p137 ≤ 4447)) : Value) = .bool false, fun _ => (.bool (decide (p137 ≥ 11904)) : Value) = .bool true, fun _ => (.bool (decide (p137 ≤ 42191)) : Value) = .bool false, fun _ => (.bool (decide (p137 ≥ 44032)) : Value) = .bool true, fun _ => (.bool (decide (p137 ≤ 55203)) : Value) = .bool false, fun _ => (.bool (decide (p137 ≥ 63744)) : Value) = .bool true, fun _ => (.bool (decide (p137 ≤ 64255)) : Value) = .bool false, fun _ => (.bool (decide (p137 ≥ 65281)) : Value) = .bool true, fun _ => (.bool (decide (p137 ≤ 65376)) : Value) = .bool false, fun _ => (.bool (decide (p137 ≥ 127744)) : Value) = .bool false]) (by kernel_rfl) ?_ ?_
                              · intro w hs; exact ⟨congrArg Value.bool (decide_eq_false h241), congrArg Value.bool (beq_eq_false_iff_ne.2 h242), congrArg Value.bool (decide_eq_true h243), congrArg Value.bool (decide_eq_false h244), congrArg Value.bool (decide_eq_true h245), congrArg Value.bool (decide_eq_false h246), congrArg Value.bool (decide_eq_true h247), congrArg Value.bool (decide_eq_false h248), congrArg Value.bool (decide_eq_true h249), congrArg Value.bool (decide_eq_false h250), congrArg Value.bool (decide_eq_true h251), congrArg Value.bool (decide_eq_false h252), congrArg Value.bool (decide_eq_false h253)⟩
                              refine at_thn ?_
                              refine at_cond_f rfl (rfl) ?_
                              refine at_skip ?_
                              refine at_thn ?_
                              refine at_seq ?_
                              refine at_reg [] [2] (L2 := [(2, .int .i64 1)]) (obs := []) (by kernel_rfl) ?_ ?_
                              · intro w hs; exact trivial
                              refine at_thn ?_
                              refine at_ret ?_
                              obtain rfl := Option.some.inj H
                              refine at_done (vs := [.int .i64 1]) (obs := []) (.inl rfl) [.tmp 2] [] rfl (by kernel_rfl) (fun w hs => trivial) (fun w hs => ⟨_, _, [], rfl, ⟨rfl, rfl⟩, hle, hs⟩)
                        · rw [if_neg h251] at H
                          by_cases h255 : p137 ≥ 127744
                          · rw [if_pos h255] at H
                            refine at_reg [(2, .bool false), (6, .bool false), (9, .bool true), (14, .bool false), (17, .bool true), (22, .bool false), (25, .bool true), (30, .bool false), (33, .bool true), (38, .bool false), (41, .bool false), (49, .bool true)] [67] (L2 := [(67, .bool (decide (p137 ≤ 129791)))]) (obs := [fun _ => (.bool (decide (p137 < 32)) : Value) = .bool false, fun _ => (.bool (p137 == 127) : Value) = .bool false, fun _ => (.bool (decide (p137 ≥ 4352)) : Value) = .bool true, fun _ => (.bool (decide (p137 ≤ 4447)) : Value) = .bool false, fun _ => (.bool (decide (p137 ≥ 11904)) : Value) = .bool true, fun _ => (.bool (decide (p137 ≤ 42191)) : Value) = .bool false, fun _ => (.bool (decide (p137 ≥ 44032)) : Value) = .bool true, fun _ => (.bool (decide (p137 ≤ 55203)) : Value) = .bool false, fun _ => (.bool (decide (p137 ≥ 63744)) : Value) = .bool true, fun _ => (.bool (decide (p137 ≤ 64255)) : Value) = .bool false, fun _ => (.bool (decide (p137 ≥ 65281)) : Value) = .bool false, fun _ => (.bool (decide (p137 ≥ 127744)) : Value) = .bool true]) (by kernel_rfl) ?_ ?_
                            · intro w hs; exact ⟨congrArg Value.bool (decide_eq_false h241), congrArg Value.bool (beq_eq_false_iff_ne.2 h242), congrArg Value.bool (decide_eq_true h243), congrArg Value.bool (decide_eq_false h244), congrArg Value.bool (decide_eq_true h245), congrArg Value.bool (decide_eq_false h246), congrArg Value.bool (decide_eq_true h247), congrArg Value.bool (decide_eq_false h248), congrArg Value.bool (decide_eq_true h249), congrArg Value.bool (decide_eq_false h250), congrArg Value.bool (decide_eq_false h251), congrArg Value.bool (decide_eq_true h255)⟩
                            refine at_thn ?_
                            by_cases h256 : p137 ≤ 129791
                            · rw [if_pos h256] at H
                              refine at_cond_t rfl (decide_eq_true h256) ?_
                              refine at_seq ?_
                              refine at_reg [] [2] (L2 := [(2, .int .i64 2)]) (obs := []) (by kernel_rfl) ?_ ?_
                              · intro w hs; exact trivial
                              refine at_thn ?_
                              refine at_ret ?_
                              refine at_then_ret ?_
                              obtain rfl := Option.some.inj H
                              refine at_done (vs := [.int .i64 2]) (obs := []) (.inl rfl) [.tmp 2] [] rfl (by kernel_rfl) (fun w hs => trivial) (fun w hs => ⟨_, _, [], rfl, ⟨rfl, rfl⟩, hle, hs⟩)
                            · rw [if_neg h256] at H
                              refine at_cond_f rfl (decide_eq_false h256) ?_
                              refine at_skip ?_
                              refine at_thn ?_
                              refine at_seq ?_
                              refine at_reg [] [2] (L2 := [(2, .int .i64 1)]) (obs := []) (by kernel_rfl) ?_ ?_
                              · intro w hs; exact trivial
                              refine at_thn ?_
                              refine at_ret ?_
                              obtain rfl := Option.some.inj H
                              refine at_done (vs := [.int .i64 1]) (obs := []) (.inl rfl) [.tmp 2] [] rfl (by kernel_rfl) (fun w hs => trivial) (fun w hs => ⟨_, _, [], rfl, ⟨rfl, rfl⟩, hle, hs⟩)
                          · rw [if_neg h255] at H
                            refine at_reg [(2, .bool false), (6, .bool false), (9, .bool true), (14, .bool false), (17, .bool true), (22, .bool false), (25, .bool true), (30, .bool false), (33, .bool true), (38, .bool false), (41, .bool false), (49, .bool false)] [67] (L2 := [(67, .bool false)]) (obs := [fun _ => (.bool (decide (p137 < 32)) : Value) = .bool false, fun _ => (.bool (p137 == 127) : Value) = .bool false, fun _ => (.bool (decide (p137 ≥ 4352)) : Value) = .bool true, fun _ => (.bool (decide (p137 ≤ 4447)) : Value) = .bool false, fun _ => (.bool (decide (p137 ≥ 11904)) : Value) = .bool true, fun _ => (.bool (decide (p137 ≤ 42191)) : Value) = .bool false, fun _ => (.bool (decide (p137 ≥ 44032)) : Value) = .bool true, fun _ => (.bool (decide (p137 ≤ 55203)) : Value) = .bool false, fun _ => (.bool (decide (p137 ≥ 63744)) : Value) = .bool true, fun _ => (.bool (decide (p137 ≤ 64255)) : Value) = .bool false, fun _ => (.bool (decide (p137 ≥ 65281)) : Value) = .bool false, fun _ => (.bool (decide (p137 ≥ 127744)) : Value) = .bool false]) (by kernel_rfl) ?_ ?_
                            · intro w hs; exact ⟨congrArg Value.bool (decide_eq_false h241), congrArg Value.bool (beq_eq_false_iff_ne.2 h242), congrArg Value.bool (decide_eq_true h243), congrArg Value.bool (decide_eq_false h244), congrArg Value.bool (decide_eq_true h245), congrArg Value.bool (decide_eq_false h246), congrArg Value.bool (decide_eq_true h247), congrArg Value.bool (decide_eq_false h248), congrArg Value.bool (decide_eq_true h249), congrArg Value.bool (decide_eq_false h250), congrArg Value.bool (decide_eq_false h251), congrArg Value.bool (decide_eq_false h255)⟩
                            refine at_thn ?_
                            refine at_cond_f rfl (rfl) ?_
                            refine at_skip ?_
                            refine at_thn ?_
                            refine at_seq ?_
                            refine at_reg [] [2] (L2 := [(2, .int .i64 1)]) (obs := []) (by kernel_rfl) ?_ ?_
                            · intro w hs; exact trivial
                            refine at_thn ?_
                            refine at_ret ?_
                            obtain rfl := Option.some.inj H
                            refine at_done (vs := [.int .i64 1]) (obs := []) (.inl rfl) [.tmp 2] [] rfl (by kernel_rfl) (fun w hs => trivial) (fun w hs => ⟨_, _, [], rfl, ⟨rfl, rfl⟩, hle, hs⟩)
                    · rw [if_neg h249] at H
                      by_cases h257 : p137 ≥ 65281
                      · rw [if_pos h257] at H
                        by_cases h258 : p137 ≤ 65376
                        · rw [if_pos h258] at H
                          refine at_reg [(2, .bool false), (6, .bool false), (9, .bool true), (14, .bool false), (17, .bool true), (22, .bool false), (25, .bool true), (30, .bool false), (33, .bool false), (41, .bool true), (46, .bool true)] [67] (L2 := [(67, .bool true)]) (obs := [fun _ => (.bool (decide (p137 < 32)) : Value) = .bool false, fun _ => (.bool (p137 == 127) : Value) = .bool false, fun _ => (.bool (decide (p137 ≥ 4352)) : Value) = .bool true, fun _ => (.bool (decide (p137 ≤ 4447)) : Value) = .bool false, fun _ => (.bool (decide (p137 ≥ 11904)) : Value) = .bool true, fun _ => (.bool (decide (p137 ≤ 42191)) : Value) = .bool false, fun _ => (.bool (decide (p137 ≥ 44032)) : Value) = .bool true, fun _ => (.bool (decide (p137 ≤ 55203)) : Value) = .bool false, fun _ => (.bool (decide (p137 ≥ 63744)) : Value) = .bool false, fun _ => (.bool (decide (p137 ≥ 65281)) : Value) = .bool true, fun _ => (.bool (decide (p137 ≤ 65376)) : Value) = .bool true]) (by kernel_rfl) ?_ ?_
                          · intro w hs; exact ⟨congrArg Value.bool (decide_eq_false h241), congrArg Value.bool (beq_eq_false_iff_ne.2 h242), congrArg Value.bool (decide_eq_true h243), congrArg Value.bool (decide_eq_false h244), congrArg Value.bool (decide_eq_true h245), congrArg Value.bool (decide_eq_false h246), congrArg Value.bool (decide_eq_true h247), congrArg Value.bool (decide_eq_false h248), congrArg Value.bool (decide_eq_false h249), congrArg Value.bool (decide_eq_true h257), congrArg Value.bool (decide_eq_true h258)⟩
                          refine at_thn ?_
                          refine at_cond_t rfl (rfl) ?_
                          refine at_seq ?_
                          refine at_reg [] [2] (L2 := [(2, .int .i64 2)]) (obs := []) (by kernel_rfl) ?_ ?_
                          · intro w hs; exact trivial
                          refine at_thn ?_
                          refine at_ret ?_
                          refine at_then_ret ?_
                          obtain rfl := Option.some.inj H
                          refine at_done (vs := [.int .i64 2]) (obs := []) (.inl rfl) [.tmp 2] [] rfl (by kernel_rfl) (fun w hs => trivial) (fun w hs => ⟨_, _, [], rfl, ⟨rfl, rfl⟩, hle, hs⟩)
                        · rw [if_neg h258] at H
                          by_cases h259 : p137 ≥ 127744
                          · rw [if_pos h259] at H
                            refine at_reg [(2, .bool false), (6, .bool false), (9, .bool true), (14, .bool false), (17, .bool true), (22, .bool false), (25, .bool true), (30, .bool false), (33, .bool false), (41, .bool true), (46, .bool false), (49, .bool true)] [67] (L2 := [(67, .bool (decide (p137 ≤ 129791)))]) (obs := [fun _ => (.bool (decide (p137 < 32)) : Value) = .bool false, fun _ => (.bool (p137 == 127) : Value) = .bool false, fun _ => (.bool (decide (p137 ≥ 4352)) : Value) = .bool true, fun _ => (.bool (decide (p137 ≤ 4447)) : Value) = .bool false, fun _ => (.bool (decide (p137 ≥ 11904)) : Value) = .bool true, fun _ => (.bool (decide (p137 ≤ 42191)) : Value) = .bool false, fun _ => (.bool (decide (p137 ≥ 44032)) : Value) = .bool true, fun _ => (.bool (decide (p137 ≤ 55203)) : Value) = .bool false, fun _ => (.bool (decide (p137 ≥ 63744)) : Value) = .bool false, fun _ => (.bool (decide (p137 ≥ 65281)) : Value) = .bool true, fun _ => (.bool (decide (p137 ≤ 65376)) : Value) = .bool false, fun _ => (.bool (decide (p137 ≥ 127744)) : Value) = .bool true]) (by kernel_rfl) ?_ ?_
                            · intro w hs; exact ⟨congrArg Value.bool (decide_eq_false h241), congrArg Value.bool (beq_eq_false_iff_ne.2 h242), congrArg Value.bool (decide_eq_true h243), congrArg Value.bool (decide_eq_false h244), congrArg Value.bool (decide_eq_true h245), congrArg Value.bool (decide_eq_false h246), congrArg Value.bool (decide_eq_true h247), congrArg Value.bool (decide_eq_false h248), congrArg Value.bool (decide_eq_false h249), congrArg Value.bool (decide_eq_true h257), congrArg Value.bool (decide_eq_false h258), congrArg Value.bool (decide_eq_true h259)⟩
                            refine at_thn ?_
                            by_cases h260 : p137 ≤ 129791
                            · rw [if_pos h260] at H
                              refine at_cond_t rfl (decide_eq_true h260) ?_
                              refine at_seq ?_
                              refine at_reg [] [2] (L2 := [(2, .int .i64 2)]) (obs := []) (by kernel_rfl) ?_ ?_
                              · intro w hs; exact trivial
                              refine at_thn ?_
                              refine at_ret ?_
                              refine at_then_ret ?_
                              obtain rfl := Option.some.inj H
                              refine at_done (vs := [.int .i64 2]) (obs := []) (.inl rfl) [.tmp 2] [] rfl (by kernel_rfl) (fun w hs => trivial) (fun w hs => ⟨_, _, [], rfl, ⟨rfl, rfl⟩, hle, hs⟩)
                            · rw [if_neg h260] at H
                              refine at_cond_f rfl (decide_eq_false h260) ?_
                              refine at_skip ?_
                              refine at_thn ?_
                              refine at_seq ?_
                              refine at_reg [] [2] (L2 := [(2, .int .i64 1)]) (obs := []) (by kernel_rfl) ?_ ?_
                              · intro w hs; exact trivial
                              refine at_thn ?_
                              refine at_ret ?_
                              obtain rfl := Option.some.inj H
                              refine at_done (vs := [.int .i64 1]) (obs := []) (.inl rfl) [.tmp 2] [] rfl (by kernel_rfl) (fun w hs => trivial) (fun w hs => ⟨_, _, [], rfl, ⟨rfl, rfl⟩, hle, hs⟩)
                          · rw [if_neg h259] at H
                            refine at_reg [(2, .bool false), (6, .bool false), (9, .bool true), (14, .bool false), (17, .bool true), (22, .bool false), (25, .bool true), (30, .bool false), (33, .bool false), (41, .bool true), (46, .bool false), (49, .bool false)] [67] (L2 := [(67, .bool false)]) (obs := [fun _ => (.bool (decide (p137 < 32)) : Value) = .bool false, fun _ => (.bool (p137 == 127) : Value) = .bool false, fun _ => (.bool (decide (p137 ≥ 4352)) : Value) = .bool true, fun _ => (.bool (decide (p137 ≤ 4447)) : Value) = .bool false, fun _ => (.bool (decide (p137 ≥ 11904)) : Value) = .bool true, fun _ => (.bool (decide (p137 ≤ 42191)) : Value) = .bool false, fun _ => (.bool (decide (p137 ≥ 44032)) : Value) = .bool true, fun _ => (.bool (decide (p137 ≤ 55203)) : Value) = .bool false, fun _ => (.bool (decide (p137 ≥ 63744)) : Value) = .bool false, fun _ => (.bool (decide (p137 ≥ 65281)) : Value) = .bool true, fun _ => (.bool (decide (p137 ≤ 65376)) : Value) = .bool false, fun _ => (.bool (decide (p137 ≥ 127744)) : Value) = .bool false]) (by kernel_rfl) ?_ ?_
                            · intro w hs; exact ⟨congrArg Value.bool (decide_eq_false h241), congrArg Value.bool (beq_eq_false_iff_ne.2 h242), congrArg Value.bool (decide_eq_true h243), congrArg Value.bool (decide_eq_false h244), congrArg Value.bool (decide_eq_true h245), congrArg Value.bool (decide_eq_false h246), congrArg Value.bool (decide_eq_true h247), congrArg Value.bool (decide_eq_false h248), congrArg Value.bool (decide_eq_false h249), congrArg Value.bool (decide_eq_true h257), congrArg Value.bool (decide_eq_false h258), congrArg Value.bool (decide_eq_false h259)⟩
                            refine at_thn ?_
                            refine at_cond_f rfl (rfl) ?_
                            refine at_skip ?_
                            refine at_thn ?_
                            refine at_seq ?_
                            refine at_reg [] [2] (L2 := [(2, .int .i64 1)]) (obs := []) (by kernel_rfl) ?_ ?_
                            · intro w hs; exact trivial
                            refine at_thn ?_
                            refine at_ret ?_
                            obtain rfl := Option.some.inj H
                            refine at_done (vs := [.int .i64 1]) (obs := []) (.inl rfl) [.tmp 2] [] rfl (by kernel_rfl) (fun w hs => trivial) (fun w hs => ⟨_, _, [], rfl, ⟨rfl, rfl⟩, hle, hs⟩)
                      · rw [if_neg h257] at H
                        by_cases h261 : p137 ≥ 127744
                        · rw [if_pos h261] at H
                          refine at_reg [(2, .bool false), (6, .bool false), (9, .bool true), (14, .bool false), (17, .bool true), (22, .bool false), (25, .bool true), (30, .bool false), (33, .bool false), (41, .bool false), (49, .bool true)] [67] (L2 := [(67, .bool (decide (p137 ≤ 129791)))]) (obs := [fun _ => (.bool (decide (p137 < 32)) : Value) = .bool false, fun _ => (.bool (p137 == 127) : Value) = .bool false, fun _ => (.bool (decide (p137 ≥ 4352)) : Value) = .bool true, fun _ => (.bool (decide (p137 ≤ 4447)) : Value) = .bool false, fun _ => (.bool (decide (p137 ≥ 11904)) : Value) = .bool true, fun _ => (.bool (decide (p137 ≤ 42191)) : Value) = .bool false, fun _ => (.bool (decide (p137 ≥ 44032)) : Value) = .bool true, fun _ => (.bool (decide (p137 ≤ 55203)) : Value) = .bool false, fun _ => (.bool (decide (p137 ≥ 63744)) : Value) = .bool false, fun _ => (.bool (decide (p137 ≥ 65281)) : Value) = .bool false, fun _ => (.bool (decide (p137 ≥ 127744)) : Value) = .bool true]) (by kernel_rfl) ?_ ?_
                          · intro w hs; exact ⟨congrArg Value.bool (decide_eq_false h241), congrArg Value.bool (beq_eq_false_iff_ne.2 h242), congrArg Value.bool (decide_eq_true h243), congrArg Value.bool (decide_eq_false h244), congrArg Value.bool (decide_eq_true h245), congrArg Value.bool (decide_eq_false h246), congrArg Value.bool (decide_eq_true h247), congrArg Value.bool (decide_eq_false h248), congrArg Value.bool (decide_eq_false h249), congrArg Value.bool (decide_eq_false h257), congrArg Value.bool (decide_eq_true h261)⟩
                          refine at_thn ?_
                          by_cases h262 : p137 ≤ 129791
                          · rw [if_pos h262] at H
                            refine at_cond_t rfl (decide_eq_true h262) ?_
                            refine at_seq ?_
                            refine at_reg [] [2] (L2 := [(2, .int .i64 2)]) (obs := []) (by kernel_rfl) ?_ ?_
                            · intro w hs; exact trivial
                            refine at_thn ?_
                            refine at_ret ?_
                            refine at_then_ret ?_
                            obtain rfl := Option.some.inj H
                            refine at_done (vs := [.int .i64 2]) (obs := []) (.inl rfl) [.tmp 2] [] rfl (by kernel_rfl) (fun w hs => trivial) (fun w hs => ⟨_, _, [], rfl, ⟨rfl, rfl⟩, hle, hs⟩)
                          · rw [if_neg h262] at H
                            refine at_cond_f rfl (decide_eq_false h262) ?_
                            refine at_skip ?_
                            refine at_thn ?_
                            refine at_seq ?_
                            refine at_reg [] [2] (L2 := [(2, .int .i64 1)]) (obs := []) (by kernel_rfl) ?_ ?_
                            · intro w hs; exact trivial
                            refine at_thn ?_
                            refine at_ret ?_
                            obtain rfl := Option.some.inj H
                            refine at_done (vs := [.int .i64 1]) (obs := []) (.inl rfl) [.tmp 2] [] rfl (by kernel_rfl) (fun w hs => trivial) (fun w hs => ⟨_, _, [], rfl, ⟨rfl, rfl⟩, hle, hs⟩)
                        · rw [if_neg h261] at H
                          refine at_reg [(2, .bool false), (6, .bool false), (9, .bool true), (14, .bool false), (17, .bool true), (22, .bool false), (25, .bool true), (30, .bool false), (33, .bool false), (41, .bool false), (49, .bool false)] [67] (L2 := [(67, .bool false)]) (obs := [fun _ => (.bool (decide (p137 < 32)) : Value) = .bool false, fun _ => (.bool (p137 == 127) : Value) = .bool false, fun _ => (.bool (decide (p137 ≥ 4352)) : Value) = .bool true, fun _ => (.bool (decide (p137 ≤ 4447)) : Value) = .bool false, fun _ => (.bool (decide (p137 ≥ 11904)) : Value) = .bool true, fun _ => (.bool (decide (p137 ≤ 42191)) : Value) = .bool false, fun _ => (.bool (decide (p137 ≥ 44032)) : Value) = .bool true, fun _ => (.bool (decide (p137 ≤ 55203)) : Value) = .bool false, fun _ => (.bool (decide (p137 ≥ 63744)) : Value) = .bool false, fun _ => (.bool (decide (p137 ≥ 65281)) : Value) = .bool false, fun _ => (.bool (decide (p137 ≥ 127744)) : Value) = .bool false]) (by kernel_rfl) ?_ ?_
                          · intro w hs; exact ⟨congrArg Value.bool (decide_eq_false h241), congrArg Value.bool (beq_eq_false_iff_ne.2 h242), congrArg Value.bool (decide_eq_true h243), congrArg Value.bool (decide_eq_false h244), congrArg Value.bool (decide_eq_true h245), congrArg Value.bool (decide_eq_false h246), congrArg Value.bool (decide_eq_true h247), congrArg Value.bool (decide_eq_false h248), congrArg Value.bool (decide_eq_false h249), congrArg Value.bool (decide_eq_false h257), congrArg Value.bool (decide_eq_false h261)⟩
                          refine at_thn ?_
                          refine at_cond_f rfl (rfl) ?_
                          refine at_skip ?_
                          refine at_thn ?_
                          refine at_seq ?_
                          refine at_reg [] [2] (L2 := [(2, .int .i64 1)]) (obs := []) (by kernel_rfl) ?_ ?_
                          · intro w hs; exact trivial
                          refine at_thn ?_
                          refine at_ret ?_
                          obtain rfl := Option.some.inj H
                          refine at_done (vs := [.int .i64 1]) (obs := []) (.inl rfl) [.tmp 2] [] rfl (by kernel_rfl) (fun w hs => trivial) (fun w hs => ⟨_, _, [], rfl, ⟨rfl, rfl⟩, hle, hs⟩)
                · rw [if_neg h247] at H
                  by_cases h263 : p137 ≥ 63744
                  · rw [if_pos h263] at H
                    by_cases h264 : p137 ≤ 64255
                    · rw [if_pos h264] at H
                      refine at_reg [(2, .bool false), (6, .bool false), (9, .bool true), (14, .bool false), (17, .bool true), (22, .bool false), (25, .bool false), (33, .bool true), (38, .bool true)] [67] (L2 := [(67, .bool true)]) (obs := [fun _ => (.bool (decide (p137 < 32)) : Value) = .bool false, fun _ => (.bool (p137 == 127) : Value) = .bool false, fun _ => (.bool (decide (p137 ≥ 4352)) : Value) = .bool true, fun _ => (.bool (decide (p137 ≤ 4447)) : Value) = .bool false, fun _ => (.bool (decide (p137 ≥ 11904)) : Value) = .bool true, fun _ => (.bool (decide (p137 ≤ 42191)) : Value) = .bool false, fun _ => (.bool (decide (p137 ≥ 44032)) : Value) = .bool false, fun _ => (.bool (decide (p137 ≥ 63744)) : Value) = .bool true, fun _ => (.bool (decide (p137 ≤ 64255)) : Value) = .bool true]) (by kernel_rfl) ?_ ?_
                      · intro w hs; exact ⟨congrArg Value.bool (decide_eq_false h241), congrArg Value.bool (beq_eq_false_iff_ne.2 h242), congrArg Value.bool (decide_eq_true h243), congrArg Value.bool (decide_eq_false h244), congrArg Value.bool (decide_eq_true h245), congrArg Value.bool (decide_eq_false h246), congrArg Value.bool (decide_eq_false h247), congrArg Value.bool (decide_eq_true h263), congrArg Value.bool (decide_eq_true h264)⟩
                      refine at_thn ?_
                      refine at_cond_t rfl (rfl) ?_
                      refine at_seq ?_
                      refine at_reg [] [2] (L2 := [(2, .int .i64 2)]) (obs := []) (by kernel_rfl) ?_ ?_
                      · intro w hs; exact trivial
                      refine at_thn ?_
                      refine at_ret ?_
                      refine at_then_ret ?_
                      obtain rfl := Option.some.inj H
                      refine at_done (vs := [.int .i64 2]) (obs := []) (.inl rfl) [.tmp 2] [] rfl (by kernel_rfl) (fun w hs => trivial) (fun w hs => ⟨_, _, [], rfl, ⟨rfl, rfl⟩, hle, hs⟩)
                    · rw [if_neg h264] at H
                      by_cases h265 : p137 ≥ 65281
                      · rw [if_pos h265] at H
                        by_cases h266 : p137 ≤ 65376
                        · rw [if_pos h266] at H
                          refine at_reg [(2, .bool false), (6, .bool false), (9, .bool true), (14, .bool false), (17, .bool true), (22, .bool false), (25, .bool false), (33, .bool true), (38, .bool false), (41, .bool true), (46, .bool true)] [67] (L2 := [(67, .bool true)]) (obs := [fun _ => (.bool (decide (p137 < 32)) : Value) = .bool false, fun _ => (.bool (p137 == 127) : Value) = .bool false, fun _ => (.bool (decide (p137 ≥ 4352)) : Value) = .bool true, fun _ => (.bool (decide (p137 ≤ 4447)) : Value) = .bool false, fun _ => (.bool (decide (p137 ≥ 11904)) : Value) = .bool true, fun _ => (.bool (decide (p137 ≤ 42191)) : Value) = .bool false, fun _ => (.bool (decide (p137 ≥ 44032)) : Value) = .bool false, fun _ => (.bool (decide (p137 ≥ 63744)) : Value) = .bool true, fun _ => (.bool (decide (p137 ≤ 64255)) : Value) = .bool false, fun _ => (.bool (decide (p137 ≥ 65281)) : Value) = .bool true, fun _ => (.bool (decide (p137 ≤ 65376)) : Value) = .bool true]) (by kernel_rfl) ?_ ?_
                          · intro w hs; exact ⟨congrArg Value.bool (decide_eq_false h241), congrArg Value.bool (beq_eq_false_iff_ne.2 h242), congrArg Value.bool (decide_eq_true h243), congrArg Value.bool (decide_eq_false h244), congrArg Value.bool (decide_eq_true h245), congrArg Value.bool (decide_eq_false h246), congrArg Value.bool (decide_eq_false h247), congrArg Value.bool (decide_eq_true h263), congrArg Value.bool (decide_eq_false h264), congrArg Value.bool (decide_eq_true h265), congrArg Value.bool (decide_eq_true h266)⟩
                          refine at_thn ?_
                          refine at_cond_t rfl (rfl) ?_
                          refine at_seq ?_
                          refine at_reg [] [2] (L2 := [(2, .int .i64 2)]) (obs := []) (by kernel_rfl) ?_ ?_
                          · intro w hs; exact trivial
                          refine at_thn ?_
                          refine at_ret ?_
                          refine at_then_ret ?_
                          obtain rfl := Option.some.inj H
                          refine at_done (vs := [.int .i64 2]) (obs := []) (.inl rfl) [.tmp 2] [] rfl (by kernel_rfl) (fun w hs => trivial) (fun w hs => ⟨_, _, [], rfl, ⟨rfl, rfl⟩, hle, hs⟩)
                        · rw [if_neg h266] at H
                          by_cases h267 : p137 ≥ 127744
                          · rw [if_pos h267] at H
                            refine at_reg [(2, .bool false), (6, .bool false), (9, .bool true), (14, .bool false), (17, .bool true), (22, .bool false), (25, .bool false), (33, .bool true), (38, .bool false), (41, .bool true), (46, .bool false), (49, .bool true)] [67] (L2 := [(67, .bool (decide (p137 ≤ 129791)))]) (obs := [fun _ => (.bool (decide (p137 < 32)) : Value) = .bool false, fun _ => (.bool (p137 == 127) : Value) = .bool false, fun _ => (.bool (decide (p137 ≥ 4352)) : Value) = .bool true, fun _ => (.bool (decide (p137 ≤ 4447)) : Value) = .bool false, fun _ => (.bool (decide (p137 ≥ 11904)) : Value) = .bool true, fun _ => (.bool (decide (p137 ≤ 42191)) : Value) = .bool false, fun _ => (.bool (decide (p137 ≥ 44032)) : Value) = .bool false, fun _ => (.bool (decide (p137 ≥ 63744)) : Value) = .bool true, fun _ => (.bool (decide (p137 ≤ 64255)) : Value) = .bool false, fun _ => (.bool (decide (p137 ≥ 65281)) : Value) = .bool true, fun _ => (.bool (decide (p137 ≤ 65376)) : Value) = .bool false, fun _ => (.bool (decide (p137 ≥ 127744)) : Value) = .bool true]) (by kernel_rfl) ?_ ?_
                            · intro w hs; exact ⟨congrArg Value.bool (decide_eq_false h241), congrArg Value.bool (beq_eq_false_iff_ne.2 h242), congrArg Value.bool (decide_eq_true h243), congrArg Value.bool (decide_eq_false h244), congrArg Value.bool (decide_eq_true h245), congrArg Value.bool (decide_eq_false h246), congrArg Value.bool (decide_eq_false h247), congrArg Value.bool (decide_eq_true h263), congrArg Value.bool (decide_eq_false h264), congrArg Value.bool (decide_eq_true h265), congrArg Value.bool (decide_eq_false h266), congrArg Value.bool (decide_eq_true h267)⟩
                            refine at_thn ?_
                            by_cases h268 : p137 ≤ 129791
                            · rw [if_pos h268] at H
                              refine at_cond_t rfl (decide_eq_true h268) ?_
                              refine at_seq ?_
                              refine at_reg [] [2] (L2 := [(2, .int .i64 2)]) (obs := []) (by kernel_rfl) ?_ ?_
                              · intro w hs; exact trivial
                              refine at_thn ?_
                              refine at_ret ?_
                              refine at_then_ret ?_
                              obtain rfl := Option.some.inj H
                              refine at_done (vs := [.int .i64 2]) (obs := []) (.inl rfl) [.tmp 2] [] rfl (by kernel_rfl) (fun w hs => trivial) (fun w hs => ⟨_, _, [], rfl, ⟨rfl, rfl⟩, hle, hs⟩)
                            · rw [if_neg h268] at H
                              refine at_cond_f rfl (decide_eq_false h268) ?_
                              refine at_skip ?_
                              refine at_thn ?_
                              refine at_seq ?_
                              refine at_reg [] [2] (L2 := [(2, .int .i64 1)]) (obs := []) (by kernel_rfl) ?_ ?_
                              · intro w hs; exact trivial
                              refine at_thn ?_
                              refine at_ret ?_
                              obtain rfl := Option.some.inj H
                              refine at_done (vs := [.int .i64 1]) (obs := []) (.inl rfl) [.tmp 2] [] rfl (by kernel_rfl) (fun w hs => trivial) (fun w hs => ⟨_, _, [], rfl, ⟨rfl, rfl⟩, hle, hs⟩)
                          · rw [if_neg h267] at H
                            refine at_reg [(2, .bool false), (6, .bool false), (9, .bool true), (14, .bool false), (17, .bool true), (22, .bool false), (25, .bool false), (33, .bool true), (38, .bool false), (41, .bool true), (46, .bool false), (49, .bool false)] [67] (L2 := [(67, .bool false)]) (obs := [fun _ => (.bool (decide (p137 < 32)) : Value) = .bool false, fun _ => (.bool (p137 == 127) : Value) = .bool false, fun _ => (.bool (decide (p137 ≥ 4352)) : Value) = .bool true, fun _ => (.bool (decide (p137 ≤ 4447)) : Value) = .bool false, fun _ => (.bool (decide (p137 ≥ 11904)) : Value) = .bool true, fun _ => (.bool (decide (p137 ≤ 42191)) : Value) = .bool false, fun _ => (.bool (decide (p137 ≥ 44032)) : Value) = .bool false, fun _ => (.bool (decide (p137 ≥ 63744)) : Value) = .bool true, fun _ => (.bool (decide (p137 ≤ 64255)) : Value) = .bool false, fun _ => (.bool (decide (p137 ≥ 65281)) : Value) = .bool true, fun _ => (.bool (decide (p137 ≤ 65376)) : Value) = .bool false, fun _ => (.bool (decide (p137 ≥ 127744)) : Value) = .bool false]) (by kernel_rfl) ?_ ?_
                            · intro w hs; exact ⟨congrArg Value.bool (decide_eq_false h241), congrArg Value.bool (beq_eq_false_iff_ne.2 h242), congrArg Value.bool (decide_eq_true h243), congrArg Value.bool (decide_eq_false h244), congrArg Value.bool (decide_eq_true h245), congrArg Value.bool (decide_eq_false h246), congrArg Value.bool (decide_eq_false h247), congrArg Value.bool (decide_eq_true h263), congrArg Value.bool (decide_eq_false h264), congrArg Value.bool (decide_eq_true h265), congrArg Value.bool (decide_eq_false h266), congrArg Value.bool (decide_eq_false h267)⟩
                            refine at_thn ?_
                            refine at_cond_f rfl (rfl) ?_
                            refine at_skip ?_
                            refine at_thn ?_
                            refine at_seq ?_
                            refine at_reg [] [2] (L2 := [(2, .int .i64 1)]) (obs := []) (by kernel_rfl) ?_ ?_
                            · intro w hs; exact trivial
                            refine at_thn ?_
                            refine at_ret ?_
                            obtain rfl := Option.some.inj H
                            refine at_done (vs := [.int .i64 1]) (obs := []) (.inl rfl) [.tmp 2] [] rfl (by kernel_rfl) (fun w hs => trivial) (fun w hs => ⟨_, _, [], rfl, ⟨rfl, rfl⟩, hle, hs⟩)
                      · rw [if_neg h265] at H
                        by_cases h269 : p137 ≥ 127744
                        · rw [if_pos h269] at H
                          refine at_reg [(2, .bool false), (6, .bool false), (9, .bool true), (14, .bool false), (17, .bool true), (22, .bool false), (25, .bool false), (33, .bool true), (38, .bool false), (41, .bool false), (49, .bool true)] [67] (L2 := [(67, .bool (decide (p137 ≤ 129791)))]) (obs := [fun _ => (.bool (decide (p137 < 32)) : Value) = .bool false, fun _ => (.bool (p137 == 127) : Value) = .bool false, fun _ => (.bool (decide (p137 ≥ 4352)) : Value) = .bool true, fun _ => (.bool (decide (p137 ≤ 4447)) : Value) = .bool false, fun _ => (.bool (decide (p137 ≥ 11904)) : Value) = .bool true, fun _ => (.bool (decide (p137 ≤ 42191)) : Value) = .bool false, fun _ => (.bool (decide (p137 ≥ 44032)) : Value) = .bool false, fun _ => (.bool (decide (p137 ≥ 63744)) : Value) = .bool true, fun _ => (.bool (decide (p137 ≤ 64255)) : Value) = .bool false, fun _ => (.bool (decide (p137 ≥ 65281)) : Value) = .bool false, fun _ => (.bool (decide (p137 ≥ 127744)) : Value) = .bool true]) (by kernel_rfl) ?_ ?_
                          · intro w hs; exact ⟨congrArg Value.bool (decide_eq_false h241), congrArg Value.bool (beq_eq_false_iff_ne.2 h242), congrArg Value.bool (decide_eq_true h243), congrArg Value.bool (decide_eq_false h244), congrArg Value.bool (decide_eq_true h245), congrArg Value.bool (decide_eq_false h246), congrArg Value.bool (decide_eq_false h247), congrArg Value.bool (decide_eq_true h263), congrArg Value.bool (decide_eq_false h264), congrArg Value.bool (decide_eq_false h265), congrArg Value.bool (decide_eq_true h269)⟩
                          refine at_thn ?_
                          by_cases h270 : p137 ≤ 129791
                          · rw [if_pos h270] at H
                            refine at_cond_t rfl (decide_eq_true h270) ?_
                            refine at_seq ?_
                            refine at_reg [] [2] (L2 := [(2, .int .i64 2)]) (obs := []) (by kernel_rfl) ?_ ?_
                            · intro w hs; exact trivial
                            refine at_thn ?_
                            refine at_ret ?_
                            refine at_then_ret ?_
                            obtain rfl := Option.some.inj H
                            refine at_done (vs := [.int .i64 2]) (obs := []) (.inl rfl) [.tmp 2] [] rfl (by kernel_rfl) (fun w hs => trivial) (fun w hs => ⟨_, _, [], rfl, ⟨rfl, rfl⟩, hle, hs⟩)
                          · rw [if_neg h270] at H
                            refine at_cond_f rfl (decide_eq_false h270) ?_
                            refine at_skip ?_
                            refine at_thn ?_
                            refine at_seq ?_
                            refine at_reg [] [2] (L2 := [(2, .int .i64 1)]) (obs := []) (by kernel_rfl) ?_ ?_
                            · intro w hs; exact trivial
                            refine at_thn ?_
                            refine at_ret ?_
                            obtain rfl := Option.some.inj H
                            refine at_done (vs := [.int .i64 1]) (obs := []) (.inl rfl) [.tmp 2] [] rfl (by kernel_rfl) (fun w hs => trivial) (fun w hs => ⟨_, _, [], rfl, ⟨rfl, rfl⟩, hle, hs⟩)
                        · rw [if_neg h269] at H
                          refine at_reg [(2, .bool false), (6, .bool false), (9, .bool true), (14, .bool false), (17, .bool true), (22, .bool false), (25, .bool false), (33, .bool true), (38, .bool false), (41, .bool false), (49, .bool false)] [67] (L2 := [(67, .bool false)]) (obs := [fun _ => (.bool (decide (p137 < 32)) : Value) = .bool false, fun _ => (.bool (p137 == 127) : Value) = .bool false, fun _ => (.bool (decide (p137 ≥ 4352)) : Value) = .bool true, fun _ => (.bool (decide (p137 ≤ 4447)) : Value) = .bool false, fun _ => (.bool (decide (p137 ≥ 11904)) : Value) = .bool true, fun _ => (.bool (decide (p137 ≤ 42191)) : Value) = .bool false, fun _ => (.bool (decide (p137 ≥ 44032)) : Value) = .bool false, fun _ => (.bool (decide (p137 ≥ 63744)) : Value) = .bool true, fun _ => (.bool (decide (p137 ≤ 64255)) : Value) = .bool false, fun _ => (.bool (decide (p137 ≥ 65281)) : Value) = .bool false, fun _ => (.bool (decide (p137 ≥ 127744)) : Value) = .bool false]) (by kernel_rfl) ?_ ?_
                          · intro w hs; exact ⟨congrArg Value.bool (decide_eq_false h241), congrArg Value.bool (beq_eq_false_iff_ne.2 h242), congrArg Value.bool (decide_eq_true h243), congrArg Value.bool (decide_eq_false h244), congrArg Value.bool (decide_eq_true h245), congrArg Value.bool (decide_eq_false h246), congrArg Value.bool (decide_eq_false h247), congrArg Value.bool (decide_eq_true h263), congrArg Value.bool (decide_eq_false h264), congrArg Value.bool (decide_eq_false h265), congrArg Value.bool (decide_eq_false h269)⟩
                          refine at_thn ?_
                          refine at_cond_f rfl (rfl) ?_
                          refine at_skip ?_
                          refine at_thn ?_
                          refine at_seq ?_
                          refine at_reg [] [2] (L2 := [(2, .int .i64 1)]) (obs := []) (by kernel_rfl) ?_ ?_
                          · intro w hs; exact trivial
                          refine at_thn ?_
                          refine at_ret ?_
                          obtain rfl := Option.some.inj H
                          refine at_done (vs := [.int .i64 1]) (obs := []) (.inl rfl) [.tmp 2] [] rfl (by kernel_rfl) (fun w hs => trivial) (fun w hs => ⟨_, _, [], rfl, ⟨rfl, rfl⟩, hle, hs⟩)
                  · rw [if_neg h263] at H
                    by_cases h271 : p137 ≥ 65281
                    · rw [if_pos h271] at H
                      by_cases h272 : p137 ≤ 65376
                      · rw [if_pos h272] at H
                        refine at_reg [(2, .bool false), (6, .bool false), (9, .bool true), (14, .bool false), (17, .bool true), (22, .bool false), (25, .bool false), (33, .bool false), (41, .bool true), (46, .bool true)] [67] (L2 := [(67, .bool true)]) (obs := [fun _ => (.bool (decide (p137 < 32)) : Value) = .bool false, fun _ => (.bool (p137 == 127) : Value) = .bool false, fun _ => (.bool (decide (p137 ≥ 4352)) : Value) = .bool true, fun _ => (.bool (decide (p137 ≤ 4447)) : Value) = .bool false, fun _ => (.bool (decide (p137 ≥ 11904)) : Value) = .bool true, fun _ => (.bool (decide (p137 ≤ 42191)) : Value) = .bool false, fun _ => (.bool (decide (p137 ≥ 44032)) : Value) = .bool false, fun _ => (.bool (decide (p137 ≥ 63744)) : Value) = .bool false, fun _ => (.bool (decide (p137 ≥ 65281)) : Value) = .bool true, fun _ => (.bool (decide (p137 ≤ 65376)) : Value) = .bool true]) (by kernel_rfl) ?_ ?_
                        · intro w hs; exact ⟨congrArg Value.bool (decide_eq_false h241), congrArg Value.bool (beq_eq_false_iff_ne.2 h242), congrArg Value.bool (decide_eq_true h243), congrArg Value.bool (decide_eq_false h244), congrArg Value.bool (decide_eq_true h245), congrArg Value.bool (decide_eq_false h246), congrArg Value.bool (decide_eq_false h247), congrArg Value.bool (decide_eq_false h263), congrArg Value.bool (decide_eq_true h271), congrArg Value.bool (decide_eq_true h272)⟩
                        refine at_thn ?_
                        refine at_cond_t rfl (rfl) ?_
                        refine at_seq ?_
                        refine at_reg [] [2] (L2 := [(2, .int .i64 2)]) (obs := []) (by kernel_rfl) ?_ ?_
                        · intro w hs; exact trivial
                        refine at_thn ?_
                        refine at_ret ?_
                        refine at_then_ret ?_
                        obtain rfl := Option.some.inj H
                        refine at_done (vs := [.int .i64 2]) (obs := []) (.inl rfl) [.tmp 2] [] rfl (by kernel_rfl) (fun w hs => trivial) (fun w hs => ⟨_, _, [], rfl, ⟨rfl, rfl⟩, hle, hs⟩)
                      · rw [if_neg h272] at H
                        by_cases h273 : p137 ≥ 127744
                        · rw [if_pos h273] at H
                          refine at_reg [(2, .bool false), (6, .bool false), (9, .bool true), (14, .bool false), (17, .bool true), (22, .bool false), (25, .bool false), (33, .bool false), (41, .bool true), (46, .bool false), (49, .bool true)] [67] (L2 := [(67, .bool (decide (p137 ≤ 129791)))]) (obs := [fun _ => (.bool (decide (p137 < 32)) : Value) = .bool false, fun _ => (.bool (p137 == 127) : Value) = .bool false, fun _ => (.bool (decide (p137 ≥ 4352)) : Value) = .bool true, fun _ => (.bool (decide (p137 ≤ 4447)) : Value) = .bool false, fun _ => (.bool (decide (p137 ≥ 11904)) : Value) = .bool true, fun _ => (.bool (decide (p137 ≤ 42191)) : Value) = .bool false, fun _ => (.bool (decide (p137 ≥ 44032)) : Value) = .bool false, fun _ => (.bool (decide (p137 ≥ 63744)) : Value) = .bool false, fun _ => (.bool (decide (p137 ≥ 65281)) : Value) = .bool true, fun _ => (.bool (decide (p137 ≤ 65376)) : Value) = .bool false, fun _ => (.bool (decide (p137 ≥ 127744)) : Value) = .bool true]) (by kernel_rfl) ?_ ?_
                          · intro w hs; exact ⟨congrArg Value.bool (decide_eq_false h241), congrArg Value.bool (beq_eq_false_iff_ne.2 h242), congrArg Value.bool (decide_eq_true h243), congrArg Value.bool (decide_eq_false h244), congrArg Value.bool (decide_eq_true h245), congrArg Value.bool (decide_eq_false h246), congrArg Value.bool (decide_eq_false h247), congrArg Value.bool (decide_eq_false h263), congrArg Value.bool (decide_eq_true h271), congrArg Value.bool (decide_eq_false h272), congrArg Value.bool (decide_eq_true h273)⟩
                          refine at_thn ?_
                          by_cases h274 : p137 ≤ 129791
                          · rw [if_pos h274] at H
                            refine at_cond_t rfl (decide_eq_true h274) ?_
                            refine at_seq ?_
                            refine at_reg [] [2] (L2 := [(2, .int .i64 2)]) (obs := []) (by kernel_rfl) ?_ ?_
                            · intro w hs; exact trivial
                            refine at_thn ?_
                            refine at_ret ?_
                            refine at_then_ret ?_
                            obtain rfl := Option.some.inj H
                            refine at_done (vs := [.int .i64 2]) (obs := []) (.inl rfl) [.tmp 2] [] rfl (by kernel_rfl) (fun w hs => trivial) (fun w hs => ⟨_, _, [], rfl, ⟨rfl, rfl⟩, hle, hs⟩)
                          · rw [if_neg h274] at H
                            refine at_cond_f rfl (decide_eq_false h274) ?_
                            refine at_skip ?_
                            refine at_thn ?_
                            refine at_seq ?_
                            refine at_reg [] [2] (L2 := [(2, .int .i64 1)]) (obs := []) (by kernel_rfl) ?_ ?_
                            · intro w hs; exact trivial
                            refine at_thn ?_
                            refine at_ret ?_
                            obtain rfl := Option.some.inj H
                            refine at_done (vs := [.int .i64 1]) (obs := []) (.inl rfl) [.tmp 2] [] rfl (by kernel_rfl) (fun w hs => trivial) (fun w hs => ⟨_, _, [], rfl, ⟨rfl, rfl⟩, hle, hs⟩)
                        · rw [if_neg h273] at H
                          refine at_reg [(2, .bool false), (6, .bool false), (9, .bool true), (14, .bool false), (17, .bool true), (22, .bool false), (25, .bool false), (33, .bool false), (41, .bool true), (46, .bool false), (49, .bool false)] [67] (L2 := [(67, .bool false)]) (obs := [fun _ => (.bool (decide (p137 < 32)) : Value) = .bool false, fun _ => (.bool (p137 == 127) : Value) = .bool false, fun _ => (.bool (decide (p137 ≥ 4352)) : Value) = .bool true, fun _ => (.bool (decide (p137 ≤ 4447)) : Value) = .bool false, fun _ => (.bool (decide (p137 ≥ 11904)) : Value) = .bool true, fun _ => (.bool (decide (p137 ≤ 42191)) : Value) = .bool false, fun _ => (.bool (decide (p137 ≥ 44032)) : Value) = .bool false, fun _ => (.bool (decide (p137 ≥ 63744)) : Value) = .bool false, fun _ => (.bool (decide (p137 ≥ 65281)) : Value) = .bool true, fun _ => (.bool (decide (p137 ≤ 65376)) : Value) = .bool false, fun _ => (.bool (decide (p137 ≥ 127744)) : Value) = .bool false]) (by kernel_rfl) ?_ ?_
                          · intro w hs; exact ⟨congrArg Value.bool (decide_eq_false h241), congrArg Value.bool (beq_eq_false_iff_ne.2 h242), congrArg Value.bool (decide_eq_true h243), congrArg Value.bool (decide_eq_false h244), congrArg Value.bool (decide_eq_true h245), congrArg Value.bool (decide_eq_false h246), congrArg Value.bool (decide_eq_false h247), congrArg Value.bool (decide_eq_false h263), congrArg Value.bool (decide_eq_true h271), congrArg Value.bool (decide_eq_false h272), congrArg Value.bool (decide_eq_false h273)⟩
                          refine at_thn ?_
                          refine at_cond_f rfl (rfl) ?_
                          refine at_skip ?_
                          refine at_thn ?_
                          refine at_seq ?_
                          refine at_reg [] [2] (L2 := [(2, .int .i64 1)]) (obs := []) (by kernel_rfl) ?_ ?_
                          · intro w hs; exact trivial
                          refine at_thn ?_
                          refine at_ret ?_
                          obtain rfl := Option.some.inj H
                          refine at_done (vs := [.int .i64 1]) (obs := []) (.inl rfl) [.tmp 2] [] rfl (by kernel_rfl) (fun w hs => trivial) (fun w hs => ⟨_, _, [], rfl, ⟨rfl, rfl⟩, hle, hs⟩)
                    · rw [if_neg h271] at H
                      by_cases h275 : p137 ≥ 127744
                      · rw [if_pos h275] at H
                        refine at_reg [(2, .bool false), (6, .bool false), (9, .bool true), (14, .bool false), (17, .bool true), (22, .bool false), (25, .bool false), (33, .bool false), (41, .bool false), (49, .bool true)] [67] (L2 := [(67, .bool (decide (p137 ≤ 129791)))]) (obs := [fun _ => (.bool (decide (p137 < 32)) : Value) = .bool false, fun _ => (.bool (p137 == 127) : Value) = .bool false, fun _ => (.bool (decide (p137 ≥ 4352)) : Value) = .bool true, fun _ => (.bool (decide (p137 ≤ 4447)) : Value) = .bool false, fun _ => (.bool (decide (p137 ≥ 11904)) : Value) = .bool true, fun _ => (.bool (decide (p137 ≤ 42191)) : Value) = .bool false, fun _ => (.bool (decide (p137 ≥ 44032)) : Value) = .bool false, fun _ => (.bool (decide (p137 ≥ 63744)) : Value) = .bool false, fun _ => (.bool (decide (p137 ≥ 65281)) : Value) = .bool false, fun _ => (.bool (decide (p137 ≥ 127744)) : Value) = .bool true]) (by kernel_rfl) ?_ ?_
                        · intro w hs; exact ⟨congrArg Value.bool (decide_eq_false h241), congrArg Value.bool (beq_eq_false_iff_ne.2 h242), congrArg Value.bool (decide_eq_true h243), congrArg Value.bool (decide_eq_false h244), congrArg Value.bool (decide_eq_true h245), congrArg Value.bool (decide_eq_false h246), congrArg Value.bool (decide_eq_false h247), congrArg Value.bool (decide_eq_false h263), congrArg Value.bool (decide_eq_false h271), congrArg Value.bool (decide_eq_true h275)⟩
                        refine at_thn ?_
                        by_cases h276 : p137 ≤ 129791
                        · rw [if_pos h276] at H
                          refine at_cond_t rfl (decide_eq_true h276) ?_
                          refine at_seq ?_
                          refine at_reg [] [2] (L2 := [(2, .int .i64 2)]) (obs := []) (by kernel_rfl) ?_ ?_
                          · intro w hs; exact trivial
                          refine at_thn ?_
                          refine at_ret ?_
                          refine at_then_ret ?_
                          obtain rfl := Option.some.inj H
                          refine at_done (vs := [.int .i64 2]) (obs := []) (.inl rfl) [.tmp 2] [] rfl (by kernel_rfl) (fun w hs => trivial) (fun w hs => ⟨_, _, [], rfl, ⟨rfl, rfl⟩, hle, hs⟩)
                        · rw [if_neg h276] at H
                          refine at_cond_f rfl (decide_eq_false h276) ?_
                          refine at_skip ?_
                          refine at_thn ?_
                          refine at_seq ?_
                          refine at_reg [] [2] (L2 := [(2, .int .i64 1)]) (obs := []) (by kernel_rfl) ?_ ?_
                          · intro w hs; exact trivial
                          refine at_thn ?_
                          refine at_ret ?_
                          obtain rfl := Option.some.inj H
                          refine at_done (vs := [.int .i64 1]) (obs := []) (.inl rfl) [.tmp 2] [] rfl (by kernel_rfl) (fun w hs => trivial) (fun w hs => ⟨_, _, [], rfl, ⟨rfl, rfl⟩, hle, hs⟩)
                      · rw [if_neg h275] at H
                        refine at_reg [(2, .bool false), (6, .bool false), (9, .bool true), (14, .bool false), (17, .bool true), (22, .bool false), (25, .bool false), (33, .bool false), (41, .bool false), (49, .bool false)] [67] (L2 := [(67, .bool false)]) (obs := [fun _ => (.bool (decide (p137 < 32)) : Value) = .bool false, fun _ => (.bool (p137 == 127) : Value) = .bool false, fun _ => (.bool (decide (p137 ≥ 4352)) : Value) = .bool true, fun _ => (.bool (decide (p137 ≤ 4447)) : Value) = .bool false, fun _ => (.bool (decide (p137 ≥ 11904)) : Value) = .bool true, fun _ => (.bool (decide (p137 ≤ 42191)) : Value) = .bool false, fun _ => (.bool (decide (p137 ≥ 44032)) : Value) = .bool false, fun _ => (.bool (decide (p137 ≥ 63744)) : Value) = .bool false, fun _ => (.bool (decide (p137 ≥ 65281)) : Value) = .bool false, fun _ => (.bool (decide (p137 ≥ 127744)) : Value) = .bool false]) (by kernel_rfl) ?_ ?_
                        · intro w hs; exact ⟨congrArg Value.bool (decide_eq_false h241), congrArg Value.bool (beq_eq_false_iff_ne.2 h242), congrArg Value.bool (decide_eq_true h243), congrArg Value.bool (decide_eq_false h244), congrArg Value.bool (decide_eq_true h245), congrArg Value.bool (decide_eq_false h246), congrArg Value.bool (decide_eq_false h247), congrArg Value.bool (decide_eq_false h263), congrArg Value.bool (decide_eq_false h271), congrArg Value.bool (decide_eq_false h275)⟩
                        refine at_thn ?_
                        refine at_cond_f rfl (rfl) ?_
                        refine at_skip ?_
                        refine at_thn ?_
                        refine at_seq ?_
                        refine at_reg [] [2] (L2 := [(2, .int .i64 1)]) (obs := []) (by kernel_rfl) ?_ ?_
                        · intro w hs; exact trivial
                        refine at_thn ?_
                        refine at_ret ?_
                        obtain rfl := Option.some.inj H
                        refine at_done (vs := [.int .i64 1]) (obs := []) (.inl rfl) [.tmp 2] [] rfl (by kernel_rfl) (fun w hs => trivial) (fun w hs => ⟨_, _, [], rfl, ⟨rfl, rfl⟩, hle, hs⟩)
            · rw [if_neg h245] at H
              by_cases h277 : p137 ≥ 44032
              · rw [if_pos h277] at H
                by_cases h278 : p137 ≤ 55203
                · rw [if_pos h278] at H
                  refine at_reg [(2, .bool false), (6, .bool false), (9, .bool true), (14, .bool false), (17, .bool false), (25, .bool true), (30, .bool true)] [67] (L2 := [(67, .bool true)]) (obs := [fun _ => (.bool (decide (p137 < 32)) : Value) = .bool false, fun _ => (.bool (p137 == 127) : Value) = .bool false, fun _ => (.bool (decide (p137 ≥ 4352)) : Value) = .bool true, fun _ => (.bool (decide (p137 ≤ 4447)) : Value) = .bool false, fun _ => (.bool (decide (p137 ≥ 11904)) : Value) = .bool false, fun _ => (.bool (decide (p137 ≥ 44032)) : Value) = .bool true, fun _ => (.bool (decide (p137 ≤ 55203)) : Value) = .bool true]) (by kernel_rfl) ?_ ?_
                  · intro w hs; exact ⟨congrArg Value.bool (decide_eq_false h241), congrArg Value.bool (beq_eq_false_iff_ne.2 h242), congrArg Value.bool (decide_eq_true h243), congrArg Value.bool (decide_eq_false h244), congrArg Value.bool (decide_eq_false h245), congrArg Value.bool (decide_eq_true h277), congrArg Value.bool (decide_eq_true h278)⟩
                  refine at_thn ?_
                  refine at_cond_t rfl (rfl) ?_
                  refine at_seq ?_
                  refine at_reg [] [2] (L2 := [(2, .int .i64 2)]) (obs := []) (by kernel_rfl) ?_ ?_
                  · intro w hs; exact trivial
                  refine at_thn ?_
                  refine at_ret ?_
                  refine at_then_ret ?_
                  obtain rfl := Option.some.inj H
                  refine at_done (vs := [.int .i64 2]) (obs := []) (.inl rfl) [.tmp 2] [] rfl (by kernel_rfl) (fun w hs => trivial) (fun w hs => ⟨_, _, [], rfl, ⟨rfl, rfl⟩, hle, hs⟩)
                · rw [if_neg h278] at H
                  by_cases h279 : p137 ≥ 63744
                  · rw [if_pos h279] at H
                    by_cases h280 : p137 ≤ 64255
                    · rw [if_pos h280] at H
                      refine at_reg [(2, .bool false), (6, .bool false), (9, .bool true), (14, .bool false), (17, .bool false), (25, .bool true), (30, .bool false), (33, .bool true), (38, .bool true)] [67] (L2 := [(67, .bool true)]) (obs := [fun _ => (.bool (decide (p137 < 32)) : Value) = .bool false, fun _ => (.bool (p137 == 127) : Value) = .bool false, fun _ => (.bool (decide (p137 ≥ 4352)) : Value) = .bool true, fun _ => (.bool (decide (p137 ≤ 4447)) : Value) = .bool false, fun _ => (.bool (decide (p137 ≥ 11904)) : Value) = .bool false, fun _ => (.bool (decide (p137 ≥ 44032)) : Value) = .bool true, fun _ => (.bool (decide (p137 ≤ 55203)) : Value) = .bool false, fun _ => (.bool (decide (p137 ≥ 63744)) : Value) = .bool true, fun _ => (.bool (decide (p137 ≤ 64255)) : Value) = .bool true]) (by kernel_rfl) ?_ ?_
                      · intro w hs; exact ⟨congrArg Value.bool (decide_eq_false h241), congrArg Value.bool (beq_eq_false_iff_ne.2 h242), congrArg Value.bool (decide_eq_true h243), congrArg Value.bool (decide_eq_false h244), congrArg Value.bool (decide_eq_false h245), congrArg Value.bool (decide_eq_true h277), congrArg Value.bool (decide_eq_false h278), congrArg Value.bool (decide_eq_true h279), congrArg Value.bool (decide_eq_true h280)⟩
                      refine at_thn ?_
                      refine at_cond_t rfl (rfl) ?_
                      refine at_seq ?_
                      refine at_reg [] [2] (L2 := [(2, .int .i64 2)]) (obs := []) (by kernel_rfl) ?_ ?_
                      · intro w hs; exact trivial
                      refine at_thn ?_
                      refine at_ret ?_
                      refine at_then_ret ?_
                      obtain rfl := Option.some.inj H
                      refine at_done (vs := [.int .i64 2]) (obs := []) (.inl rfl) [.tmp 2] [] rfl (by kernel_rfl) (fun w hs => trivial) (fun w hs => ⟨_, _, [], rfl, ⟨rfl, rfl⟩, hle, hs⟩)
                    · rw [if_neg h280] at H
                      by_cases h281 : p137 ≥ 65281
                      · rw [if_pos h281] at H
                        by_cases h282 : p137 ≤ 65376
                        · rw [if_pos h282] at H
                          refine at_reg [(2, .bool false), (6, .bool false), (9, .bool true), (14, .bool false), (17, .bool false), (25, .bool true), (30, .bool false), (33, .bool true), (38, .bool false), (41, .bool true), (46, .bool true)] [67] (L2 := [(67, .bool true)]) (obs := [fun _ => (.bool (decide (p137 < 32)) : Value) = .bool false, fun _ => (.bool (p137 == 127) : Value) = .bool false, fun _ => (.bool (decide (p137 ≥ 4352)) : Value) = .bool true, fun _ => (.bool (decide (p137 ≤ 4447)) : Value) = .bool false, fun _ => (.bool (decide (p137 ≥ 11904)) : Value) = .bool false, fun _ => (.bool (decide (p137 ≥ 44032)) : Value) = .bool true, fun _ => (.bool (decide (p137 ≤ 55203)) : Value) = .bool false, fun _ => (.bool (decide (p137 ≥ 63744)) : Value) = .bool true, fun _ => (.bool (decide (p137 ≤ 64255)) : Value) = .bool false, fun _ => (.bool (decide (p137 ≥ 65281)) : Value) = .bool true, fun _ => (.bool (decide (p137 ≤ 65376)) : Value) = .bool true]) (by kernel_rfl) ?_ ?_
                          · intro w hs; exact ⟨congrArg Value.bool (decide_eq_false h241), congrArg Value.bool (beq_eq_false_iff_ne.2 h242), congrArg Value.bool (decide_eq_true h243), congrArg Value.bool (decide_eq_false h244), congrArg Value.bool (decide_eq_false h245), congrArg Value.bool (decide_eq_true h277), congrArg Value.bool (decide_eq_false h278), congrArg Value.bool (decide_eq_true h279), congrArg Value.bool (decide_eq_false h280), congrArg Value.bool (decide_eq_true h281), congrArg Value.bool (decide_eq_true h282)⟩
                          refine at_thn ?_
                          refine at_cond_t rfl (rfl) ?_
                          refine at_seq ?_
                          refine at_reg [] [2] (L2 := [(2, .int .i64 2)]) (obs := []) (by kernel_rfl) ?_ ?_
                          · intro w hs; exact trivial
                          refine at_thn ?_
                          refine at_ret ?_
                          refine at_then_ret ?_
                          obtain rfl := Option.some.inj H
                          refine at_done (vs := [.int .i64 2]) (obs := []) (.inl rfl) [.tmp 2] [] rfl (by kernel_rfl) (fun w hs => trivial) (fun w hs => ⟨_, _, [], rfl, ⟨rfl, rfl⟩, hle, hs⟩)
                        · rw [if_neg h282] at H
                          by_cases h283 : p137 ≥ 127744
                          · rw [if_pos h283] at H
                            refine at_reg [(2, .bool false), (6, .bool false), (9, .bool true), (14, .bool false), (17, .bool false), (25, .bool true), (30, .bool false), (33, .bool true), (38, .bool false), (41, .bool true), (46, .bool false), (49, .bool true)] [67] (L2 := [(67, .bool (decide (p137 ≤ 129791)))]) (obs := [fun _ => (.bool (decide (p137 < 32)) : Value) = .bool false, fun _ => (.bool (p137 == 127) : Value) = .bool false, fun _ => (.bool (decide (p137 ≥ 4352)) : Value) = .bool true, fun _ => (.bool (decide (p137 ≤ 4447)) : Value) = .bool false, fun _ => (.bool (decide (p137 ≥ 11904)) : Value) = .bool false, fun _ => (.bool (decide (p137 ≥ 44032)) : Value) = .bool true, fun _ => (.bool (decide (p137 ≤ 55203)) : Value) = .bool false, fun _ => (.bool (decide (p137 ≥ 63744)) : Value) = .bool true, fun _ => (.bool (decide (p137 ≤ 64255)) : Value) = .bool false, fun _ => (.bool (decide (p137 ≥ 65281)) : Value) = .bool true, fun _ => (.bool (decide (p137 ≤ 65376)) : Value) = .bool false, fun _ => (.bool (decide (p137 ≥ 127744)) : Value) = .bool true]) (by kernel_rfl) ?_ ?_
                            · intro w hs; exact ⟨congrArg Value.bool (decide_eq_false h241), congrArg Value.bool (beq_eq_false_iff_ne.2 h242), congrArg Value.bool (decide_eq_true h243), congrArg Value.bool (decide_eq_false h244), congrArg Value.bool (decide_eq_false h245), congrArg Value.bool (decide_eq_true h277), congrArg Value.bool (decide_eq_false h278), congrArg Value.bool (decide_eq_true h279), congrArg Value.bool (decide_eq_false h280), congrArg Value.bool (decide_eq_true h281), congrArg Value.bool (decide_eq_false h282), congrArg Value.bool (decide_eq_true h283)⟩
                            refine at_thn ?_
                            by_cases h284 : p137 ≤ 129791
                            · rw [if_pos h284] at H
                              refine at_cond_t rfl (decide_eq_true h284) ?_
                              refine at_seq ?_
                              refine at_reg [] [2] (L2 := [(2, .int .i64 2)]) (obs := []) (by kernel_rfl) ?_ ?_
                              · intro w hs; exact trivial
                              refine at_thn ?_
                              refine at_ret ?_
                              refine at_then_ret ?_
                              obtain rfl := Option.some.inj H
                              refine at_done (vs := [.int .i64 2]) (obs := []) (.inl rfl) [.tmp 2] [] rfl (by kernel_rfl) (fun w hs => trivial) (fun w hs => ⟨_, _, [], rfl, ⟨rfl, rfl⟩, hle, hs⟩)
                            · rw [if_neg h284] at H
                              refine at_cond_f rfl (decide_eq_false h284) ?_
                              refine at_skip ?_
                              refine at_thn ?_
                              refine at_seq ?_
                              refine at_reg [] [2] (L2 := [(2, .int .i64 1)]) (obs := []) (by kernel_rfl) ?_ ?_
                              · intro w hs; exact trivial
                              refine at_thn ?_
                              refine at_ret ?_
                              obtain rfl := Option.some.inj H
                              refine at_done (vs := [.int .i64 1]) (obs := []) (.inl rfl) [.tmp 2] [] rfl (by kernel_rfl) (fun w hs => trivial) (fun w hs => ⟨_, _, [], rfl, ⟨rfl, rfl⟩, hle, hs⟩)
                          · rw [if_neg h283] at H
                            refine at_reg [(2, .bool false), (6, .bool false), (9, .bool true), (14, .bool false), (17, .bool false), (25, .bool true), (30, .bool false), (33, .bool true), (38, .bool false), (41, .bool true), (46, .bool false), (49, .bool false)] [67] (L2 := [(67, .bool false)]) (obs := [fun _ => (.bool (decide (p137 < 32)) : Value) = .bool false, fun _ => (.bool (p137 == 127) : Value) = .bool false, fun _ => (.bool (decide (p137 ≥ 4352)) : Value) = .bool true, fun _ => (.bool (decide (p137 ≤ 4447)) : Value) = .bool false, fun _ => (.bool (decide (p137 ≥ 11904)) : Value) = .bool false, fun _ => (.bool (decide (p137 ≥ 44032)) : Value) = .bool true, fun _ => (.bool (decide (p137 ≤ 55203)) : Value) = .bool false, fun _ => (.bool (decide (p137 ≥ 63744)) : Value) = .bool true, fun _ => (.bool (decide (p137 ≤ 64255)) : Value) = .bool false, fun _ => (.bool (decide (p137 ≥ 65281)) : Value) = .bool true, fun _ => (.bool (decide (p137 ≤ 65376)) : Value) = .bool false, fun _ => (.bool (decide (p137 ≥ 127744)) : Value) = .bool false]) (by kernel_rfl) ?_ ?_
                            · intro w hs; exact ⟨congrArg Value.bool (decide_eq_false h241), congrArg Value.bool (beq_eq_false_iff_ne.2 h242), congrArg Value.bool (decide_eq_true h243), congrArg Value.bool (decide_eq_false h244), congrArg Value.bool (decide_eq_false h245), congrArg Value.bool (decide_eq_true h277), congrArg Value.bool (decide_eq_false h278), congrArg Value.bool (decide_eq_true h279), congrArg Value.bool (decide_eq_false h280), congrArg Value.bool (decide_eq_true h281), congrArg Value.bool (decide_eq_false h282), congrArg Value.bool (decide_eq_false h283)⟩
                            refine at_thn ?_
                            refine at_cond_f rfl (rfl) ?_
                            refine at_skip ?_
                            refine at_thn ?_
                            refine at_seq ?_
                            refine at_reg [] [2] (L2 := [(2, .int .i64 1)]) (obs := []) (by kernel_rfl) ?_ ?_
                            · intro w hs; exact trivial
                            refine at_thn ?_
                            refine at_ret ?_
                            obtain rfl := Option.some.inj H
                            refine at_done (vs := [.int .i64 1]) (obs := []) (.inl rfl) [.tmp 2] [] rfl (by kernel_rfl) (fun w hs => trivial) (fun w hs => ⟨_, _, [], rfl, ⟨rfl, rfl⟩, hle, hs⟩)
                      · rw [if_neg h281] at H
                        by_cases h285 : p137 ≥ 127744
                        · rw [if_pos h285] at H
                          refine at_reg [(2, .bool false), (6, .bool false), (9, .bool true), (14, .bool false), (17, .bool false), (25, .bool true), (30, .bool false), (33, .bool true), (38, .bool false), (41, .bool false), (49, .bool true)] [67] (L2 := [(67, .bool (decide (p137 ≤ 129791)))]) (obs := [fun _ => (.bool (decide (p137 < 32)) : Value) = .bool false, fun _ => (.bool (p137 == 127) : Value) = .bool false, fun _ => (.bool (decide (p137 ≥ 4352)) : Value) = .bool true, fun _ => (.bool (decide (p137 ≤ 4447)) : Value) = .bool false, fun _ => (.bool (decide (p137 ≥ 11904)) : Value) = .bool false, fun _ => (.bool (decide (p137 ≥ 44032)) : Value) = .bool true, fun _ => (.bool (decide (p137 ≤ 55203)) : Value) = .bool false, fun _ => (.bool (decide (p137 ≥ 63744)) : Value) = .bool true, fun _ => (.bool (decide (p137 ≤ 64255)) : Value) = .bool false, fun _ => (.bool (decide (p137 ≥ 65281)) : Value) = .bool false, fun _ => (.bool (decide (p137 ≥ 127744)) : Value) = .bool true]) (by kernel_rfl) ?_ ?_
                          · intro w hs; exact ⟨congrArg Value.bool (decide_eq_false h241), congrArg Value.bool (beq_eq_false_iff_ne.2 h242), congrArg Value.bool (decide_eq_true h243), congrArg Value.bool (decide_eq_false h244), congrArg Value.bool (decide_eq_false h245), congrArg Value.bool (decide_eq_true h277), congrArg Value.bool (decide_eq_false h278), congrArg Value.bool (decide_eq_true h279), congrArg Value.bool (decide_eq_false h280), congrArg Value.bool (decide_eq_false h281), congrArg Value.bool (decide_eq_true h285)⟩
                          refine at_thn ?_
                          by_cases h286 : p137 ≤ 129791
                          · rw [if_pos h286] at H
                            refine at_cond_t rfl (decide_eq_true h286) ?_
                            refine at_seq ?_
                            refine at_reg [] [2] (L2 := [(2, .int .i64 2)]) (obs := []) (by kernel_rfl) ?_ ?_
                            · intro w hs; exact trivial
                            refine at_thn ?_
                            refine at_ret ?_
                            refine at_then_ret ?_
                            obtain rfl := Option.some.inj H
                            refine at_done (vs := [.int .i64 2]) (obs := []) (.inl rfl) [.tmp 2] [] rfl (by kernel_rfl) (fun w hs => trivial) (fun w hs => ⟨_, _, [], rfl, ⟨rfl, rfl⟩, hle, hs⟩)
                          · rw [if_neg h286] at H
                            refine at_cond_f rfl (decide_eq_false h286) ?_
                            refine at_skip ?_
                            refine at_thn ?_
                            refine at_seq ?_
                            refine at_reg [] [2] (L2 := [(2, .int .i64 1)]) (obs := []) (by kernel_rfl) ?_ ?_
                            · intro w hs; exact trivial
                            refine at_thn ?_
                            refine at_ret ?_
                            obtain rfl := Option.some.inj H
                            refine at_done (vs := [.int .i64 1]) (obs := []) (.inl rfl) [.tmp 2] [] rfl (by kernel_rfl) (fun w hs => trivial) (fun w hs => ⟨_, _, [], rfl, ⟨rfl, rfl⟩, hle, hs⟩)
                        · rw [if_neg h285] at H
                          refine at_reg [(2, .bool false), (6, .bool false), (9, .bool true), (14, .bool false), (17, .bool false), (25, .bool true), (30, .bool false), (33, .bool true), (38, .bool false), (41, .bool false), (49, .bool false)] [67] (L2 := [(67, .bool false)]) (obs := [fun _ => (.bool (decide (p137 < 32)) : Value) = .bool false, fun _ => (.bool (p137 == 127) : Value) = .bool false, fun _ => (.bool (decide (p137 ≥ 4352)) : Value) = .bool true, fun _ => (.bool (decide (p137 ≤ 4447)) : Value) = .bool false, fun _ => (.bool (decide (p137 ≥ 11904)) : Value) = .bool false, fun _ => (.bool (decide (p137 ≥ 44032)) : Value) = .bool true, fun _ => (.bool (decide (p137 ≤ 55203)) : Value) = .bool false, fun _ => (.bool (decide (p137 ≥ 63744)) : Value) = .bool true, fun _ => (.bool (decide (p137 ≤ 64255)) : Value) = .bool false, fun _ => (.bool (decide (p137 ≥ 65281)) : Value) = .bool false, fun _ => (.bool (decide (p137 ≥ 127744)) : Value) = .bool false]) (by kernel_rfl) ?_ ?_
                          · intro w hs; exact ⟨congrArg Value.bool (decide_eq_false h241), congrArg Value.bool (beq_eq_false_iff_ne.2 h242), congrArg Value.bool (decide_eq_true h243), congrArg Value.bool (decide_eq_false h244), congrArg Value.bool (decide_eq_false h245), congrArg Value.bool (decide_eq_true h277), congrArg Value.bool (decide_eq_false h278), congrArg Value.bool (decide_eq_true h279), congrArg Value.bool (decide_eq_false h280), congrArg Value.bool (decide_eq_false h281), congrArg Value.bool (decide_eq_false h285)⟩
                          refine at_thn ?_
                          refine at_cond_f rfl (rfl) ?_
                          refine at_skip ?_
                          refine at_thn ?_
                          refine at_seq ?_
                          refine at_reg [] [2] (L2 := [(2, .int .i64 1)]) (obs := []) (by kernel_rfl) ?_ ?_
                          · intro w hs; exact trivial
                          refine at_thn ?_
                          refine at_ret ?_
                          obtain rfl := Option.some.inj H
                          refine at_done (vs := [.int .i64 1]) (obs := []) (.inl rfl) [.tmp 2] [] rfl (by kernel_rfl) (fun w hs => trivial) (fun w hs => ⟨_, _, [], rfl, ⟨rfl, rfl⟩, hle, hs⟩)
                  · rw [if_neg h279] at H
                    by_cases h287 : p137 ≥ 65281
                    · rw [if_pos h287] at H
                      by_cases h288 : p137 ≤ 65376
                      · rw [if_pos h288] at H
                        refine at_reg [(2, .bool false), (6, .bool false), (9, .bool true), (14, .bool false), (17, .bool false), (25, .bool true), (30, .bool false), (33, .bool false), (41, .bool true), (46, .bool true)] [67] (L2 := [(67, .bool true)]) (obs := [fun _ => (.bool (decide (p137 < 32)) : Value) = .bool false, fun _ => (.bool (p137 == 127) : Value) = .bool false, fun _ => (.bool (decide (p137 ≥ 4352)) : Value) = .bool true, fun _ => (.bool (decide (p137 ≤ 4447)) : Value) = .bool false, fun _ => (.bool (decide (p137 ≥ 11904)) : Value) = .bool false, fun _ => (.bool (decide (p137 ≥ 44032)) : Value) = .bool true, fun _ => (.bool (decide (p137 ≤ 55203)) : Value) = .bool false, fun _ => (.bool (decide (p137 ≥ 63744)) : Value) = .bool false, fun _ => (.bool (decide (p137 ≥ 65281)) : Value) = .bool true, fun _ => (.bool (decide (p137 ≤ 65376)) : Value) = .bool true]) (by kernel_rfl) ?_ ?_
                        · intro w hs; exact ⟨congrArg Value.bool (decide_eq_false h241), congrArg Value.bool (beq_eq_false_iff_ne.2 h242), congrArg Value.bool (decide_eq_true h243), congrArg Value.bool (decide_eq_false h244), congrArg Value.bool (decide_eq_false h245), congrArg Value.bool (decide_eq_true h277), congrArg Value.bool (decide_eq_false h278), congrArg Value.bool (decide_eq_false h279), congrArg Value.bool (decide_eq_true h287), congrArg Value.bool (decide_eq_true h288)⟩
                        refine at_thn ?_
                        refine at_cond_t rfl (rfl) ?_
                        refine at_seq ?_
                        refine at_reg [] [2] (L2 := [(2, .int .i64 2)]) (obs := []) (by kernel_rfl) ?_ ?_
                        · intro w hs; exact trivial
                        refine at_thn ?_
                        refine at_ret ?_
                        refine at_then_ret ?_
                        obtain rfl := Option.some.inj H
                        refine at_done (vs := [.int .i64 2]) (obs := []) (.inl rfl) [.tmp 2] [] rfl (by kernel_rfl) (fun w hs => trivial) (fun w hs => ⟨_, _, [], rfl, ⟨rfl, rfl⟩, hle, hs⟩)
                      · rw [if_neg h288] at H
                        by_cases h289 : p137 ≥ 127744
                        · rw [if_pos h289] at H
                          refine at_reg [(2, .bool false), (6, .bool false), (9, .bool true), (14, .bool false), (17, .bool false), (25, .bool true), (30, .bool false), (33, .bool false), (41, .bool true), (46, .bool false), (49, .bool true)] [67] (L2 := [(67, .bool (decide (p137 ≤ 129791)))]) (obs := [fun _ => (.bool (decide (p137 < 32)) : Value) = .bool false, fun _ => (.bool (p137 == 127) : Value) = .bool false, fun _ => (.bool (decide (p137 ≥ 4352)) : Value) = .bool true, fun _ => (.bool (decide (p137 ≤ 4447)) : Value) = .bool false, fun _ => (.bool (decide (p137 ≥ 11904)) : Value) = .bool false, fun _ => (.bool (decide (p137 ≥ 44032)) : Value) = .bool true, fun _ => (.bool (decide (p137 ≤ 55203)) : Value) = .bool false, fun _ => (.bool (decide (p137 ≥ 63744)) : Value) = .bool false, fun _ => (.bool (decide (p137 ≥ 65281)) : Value) = .bool true, fun _ => (.bool (decide (p137 ≤ 65376)) : Value) = .bool false, fun _ => (.bool (decide (p137 ≥ 127744)) : Value) = .bool true]) (by kernel_rfl) ?_ ?_
                          · intro w hs; exact ⟨congrArg Value.bool (decide_eq_false h241), congrArg Value.bool (beq_eq_false_iff_ne.2 h242), congrArg Value.bool (decide_eq_true h243), congrArg Value.bool (decide_eq_false h244), congrArg Value.bool (decide_eq_false h245), congrArg Value.bool (decide_eq_true h277), congrArg Value.bool (decide_eq_false h278), congrArg Value.bool (decide_eq_false h279), congrArg Value.bool (decide_eq_true h287), congrArg Value.bool (decide_eq_false h288), congrArg Value.bool (decide_eq_true h289)⟩
                          refine at_thn ?_
                          by_cases h290 : p137 ≤ 129791
                          · rw [if_pos h290] at H
                            refine at_cond_t rfl (decide_eq_true h290) ?_
                            refine at_seq ?_
                            refine at_reg [] [2] (L2 := [(2, .int .i64 2)]) (obs := []) (by kernel_rfl) ?_ ?_
                            · intro w hs; exact trivial
                            refine at_thn ?_
                            refine at_ret ?_
                            refine at_then_ret ?_
                            obtain rfl := Option.some.inj H
                            refine at_done (vs := [.int .i64 2]) (obs := []) (.inl rfl) [.tmp 2] [] rfl (by kernel_rfl) (fun w hs => trivial) (fun w hs => ⟨_, _, [], rfl, ⟨rfl, rfl⟩, hle, hs⟩)
                          · rw [if_neg h290] at H
                            refine at_cond_f rfl (decide_eq_false h290) ?_
                            refine at_skip ?_
                            refine at_thn ?_
                            refine at_seq ?_
                            refine at_reg [] [2] (L2 := [(2, .int .i64 1)]) (obs := []) (by kernel_rfl) ?_ ?_
                            · intro w hs; exact trivial
                            refine at_thn ?_
                            refine at_ret ?_
                            obtain rfl := Option.some.inj H
                            refine at_done (vs := [.int .i64 1]) (obs := []) (.inl rfl) [.tmp 2] [] rfl (by kernel_rfl) (fun w hs => trivial) (fun w hs => ⟨_, _, [], rfl, ⟨rfl, rfl⟩, hle, hs⟩)
                        · rw [if_neg h289] at H
                          refine at_reg [(2, .bool false), (6, .bool false), (9, .bool true), (14, .bool false), (17, .bool false), (25, .bool true), (30, .bool false), (33, .bool false), (41, .bool true), (46, .bool false), (49, .bool false)] [67] (L2 := [(67, .bool false)]) (obs := [fun _ => (.bool (decide (p137 < 32)) : Value) = .bool false, fun _ => (.bool (p137 == 127) : Value) = .bool false, fun _ => (.bool (decide (p137 ≥ 4352)) : Value) = .bool true, fun _ => (.bool (decide (p137 ≤ 4447)) : Value) = .bool false, fun _ => (.bool (decide (p137 ≥ 11904)) : Value) = .bool false, fun _ => (.bool (decide (p137 ≥ 44032)) : Value) = .bool true, fun _ => (.bool (decide (p137 ≤ 55203)) : Value) = .bool false, fun _ => (.bool (decide (p137 ≥ 63744)) : Value) = .bool false, fun _ => (.bool (decide (p137 ≥ 65281)) : Value) = .bool true, fun _ => (.bool (decide (p137 ≤ 65376)) : Value) = .bool false, fun _ => (.bool (decide (p137 ≥ 127744)) : Value) = .bool false]) (by kernel_rfl) ?_ ?_
                          · intro w hs; exact ⟨congrArg Value.bool (decide_eq_false h241), congrArg Value.bool (beq_eq_false_iff_ne.2 h242), congrArg Value.bool (decide_eq_true h243), congrArg Value.bool (decide_eq_false h244), congrArg Value.bool (decide_eq_false h245), congrArg Value.bool (decide_eq_true h277), congrArg Value.bool (decide_eq_false h278), congrArg Value.bool (decide_eq_false h279), congrArg Value.bool (decide_eq_true h287), congrArg Value.bool (decide_eq_false h288), congrArg Value.bool (decide_eq_false h289)⟩
                          refine at_thn ?_
                          refine at_cond_f rfl (rfl) ?_
                          refine at_skip ?_
                          refine at_thn ?_
                          refine at_seq ?_
                          refine at_reg [] [2] (L2 := [(2, .int .i64 1)]) (obs := []) (by kernel_rfl) ?_ ?_
                          · intro w hs; exact trivial
                          refine at_thn ?_
                          refine at_ret ?_
                          obtain rfl := Option.some.inj H
                          refine at_done (vs := [.int .i64 1]) (obs := []) (.inl rfl) [.tmp 2] [] rfl (by kernel_rfl) (fun w hs => trivial) (fun w hs => ⟨_, _, [], rfl, ⟨rfl, rfl⟩, hle, hs⟩)
                    · rw [if_neg h287] at H
                      by_cases h291 : p137 ≥ 127744
                      · rw [if_pos h291] at H
                        refine at_reg [(2, .bool false), (6, .bool false), (9, .bool true), (14, .bool false), (17, .bool false), (25, .bool true), (30, .bool false), (33, .bool false), (41, .bool false), (49, .bool true)] [67] (L2 := [(67, .bool (decide (p137 ≤ 129791)))]) (obs := [fun _ => (.bool (decide (p137 < 32)) : Value) = .bool false, fun _ => (.bool (p137 == 127) : Value) = .bool false, fun _ => (.bool (decide (p137 ≥ 4352)) : Value) = .bool true, fun _ => (.bool (decide (p137 ≤ 4447)) : Value) = .bool false, fun _ => (.bool (decide (p137 ≥ 11904)) : Value) = .bool false, fun _ => (.bool (decide (p137 ≥ 44032)) : Value) = .bool true, fun _ => (.bool (decide (p137 ≤ 55203)) : Value) = .bool false, fun _ => (.bool (decide (p137 ≥ 63744)) : Value) = .bool false, fun _ => (.bool (decide (p137 ≥ 65281)) : Value) = .bool false, fun _ => (.bool (decide (p137 ≥ 127744)) : Value) = .bool true]) (by kernel_rfl) ?_ ?_
                        · intro w hs; exact ⟨congrArg Value.bool (decide_eq_false h241), congrArg Value.bool (beq_eq_false_iff_ne.2 h242), congrArg Value.bool (decide_eq_true h243), congrArg Value.bool (decide_eq_false h244), congrArg Value.bool (decide_eq_false h245), congrArg Value.bool (decide_eq_true h277), congrArg Value.bool (decide_eq_false h278), congrArg Value.bool (decide_eq_false h279), congrArg Value.bool (decide_eq_false h287), congrArg Value.bool (decide_eq_true h291)⟩
                        refine at_thn ?_
                        by_cases h292 : p137 ≤ 129791
                        · rw [if_pos h292] at H
                          refine at_cond_t rfl (decide_eq_true h292) ?_
                          refine at_seq ?_
                          refine at_reg [] [2] (L2 := [(2, .int .i64 2)]) (obs := []) (by kernel_rfl) ?_ ?_
                          · intro w hs; exact trivial
                          refine at_thn ?_
                          refine at_ret ?_
                          refine at_then_ret ?_
                          obtain rfl := Option.some.inj H
                          refine at_done (vs := [.int .i64 2]) (obs := []) (.inl rfl) [.tmp 2] [] rfl (by kernel_rfl) (fun w hs => trivial) (fun w hs => ⟨_, _, [], rfl, ⟨rfl, rfl⟩, hle, hs⟩)
                        · rw [if_neg h292] at H
                          refine at_cond_f rfl (decide_eq_false h292) ?_
                          refine at_skip ?_
                          refine at_thn ?_
                          refine at_seq ?_
                          refine at_reg [] [2] (L2 := [(2, .int .i64 1)]) (obs := []) (by kernel_rfl) ?_ ?_
                          · intro w hs; exact trivial
                          refine at_thn ?_
                          refine at_ret ?_
                          obtain rfl := Option.some.inj H
                          refine at_done (vs := [.int .i64 1]) (obs := []) (.inl rfl) [.tmp 2] [] rfl (by kernel_rfl) (fun w hs => trivial) (fun w hs => ⟨_, _, [], rfl, ⟨rfl, rfl⟩, hle, hs⟩)
                      · rw [if_neg h291] at H
                        refine at_reg [(2, .bool false), (6, .bool false), (9, .bool true), (14, .bool false), (17, .bool false), (25, .bool true), (30, .bool false), (33, .bool false), (41, .bool false), (49, .bool false)] [67] (L2 := [(67, .bool false)]) (obs := [fun _ => (.bool (decide (p137 < 32)) : Value) = .bool false, fun _ => (.bool (p137 == 127) : Value) = .bool false, fun _ => (.bool (decide (p137 ≥ 4352)) : Value) = .bool true, fun _ => (.bool (decide (p137 ≤ 4447)) : Value) = .bool false, fun _ => (.bool (decide (p137 ≥ 11904)) : Value) = .bool false, fun _ => (.bool (decide (p137 ≥ 44032)) : Value) = .bool true, fun _ => (.bool (decide (p137 ≤ 55203)) : Value) = .bool false, fun _ => (.bool (decide (p137 ≥ 63744)) : Value) = .bool false, fun _ => (.bool (decide (p137 ≥ 65281)) : Value) = .bool false, fun _ => (.bool (decide (p137 ≥ 127744)) : Value) = .bool false]) (by kernel_rfl) ?_ ?_
                        · intro w hs; exact ⟨congrArg Value.bool (decide_eq_false h241), congrArg Value.bool (beq_eq_false_iff_ne.2 h242), congrArg Value.bool (decide_eq_true h243), congrArg Value.bool (decide_eq_false h244), congrArg Value.bool (decide_eq_false h245), congrArg Value.bool (decide_eq_true h277), congrArg Value.bool (decide_eq_false h278), congrArg Value.bool (decide_eq_false h279), congrArg Value.bool (decide_eq_false h287), congrArg Value.bool (decide_eq_false h291)⟩
                        refine at_thn ?_
                        refine at_cond_f rfl (rfl) ?_
                        refine at_skip ?_
                        refine at_thn ?_
                        refine at_seq ?_
                        refine at_reg [] [2] (L2 := [(2, .int .i64 1)]) (obs := []) (by kernel_rfl) ?_ ?_
                        · intro w hs; exact trivial
                        refine at_thn ?_
                        refine at_ret ?_
                        obtain rfl := Option.some.inj H
                        refine at_done (vs := [.int .i64 1]) (obs := []) (.inl rfl) [.tmp 2] [] rfl (by kernel_rfl) (fun w hs => trivial) (fun w hs => ⟨_, _, [], rfl, ⟨rfl, rfl⟩, hle, hs⟩)
              · rw [if_neg h277] at H
                by_cases h293 : p137 ≥ 63744
                · rw [if_pos h293] at H
                  by_cases h294 : p137 ≤ 64255
                  · rw [if_pos h294] at H
                    refine at_reg [(2, .bool false), (6, .bool false), (9, .bool true), (14, .bool false), (17, .bool false), (25, .bool false), (33, .bool true), (38, .bool true)] [67] (L2 := [(67, .bool true)]) (obs := [fun _ => (.bool (decide (p137 < 32)) : Value) = .bool false, fun _ => (.bool (p137 == 127) : Value) = .bool false, fun _ => (.bool (decide (p137 ≥ 4352)) : Value) = .bool true, fun _ => (.bool (decide (p137 ≤ 4447)) : Value) = .bool false, fun _ => (.bool (decide (p137 ≥ 11904)) : Value) = .bool false, fun _ => (.bool (decide (p137 ≥ 44032)) : Value) = .bool false, fun _ => (.bool (decide (p137 ≥ 63744)) : Value) = .bool true, fun _ => (.bool (decide (p137 ≤ 64255)) : Value) = .bool true]) (by kernel_rfl) ?_ ?_
                    · intro w hs; exact ⟨congrArg Value.bool (decide_eq_false h241), congrArg Value.bool (beq_eq_false_iff_ne.2 h242), congrArg Value.bool (decide_eq_true h243), congrArg Value.bool (decide_eq_false h244), congrArg Value.bool (decide_eq_false h245), congrArg Value.bool (decide_eq_false h277), congrArg Value.bool (decide_eq_true h293), congrArg Value.bool (decide_eq_true h294)⟩
                    refine at_thn ?_
                    refine at_cond_t rfl (rfl) ?_
                    refine at_seq ?_
                    refine at_reg [] [2] (L2 := [(2, .int .i64 2)]) (obs := []) (by kernel_rfl) ?_ ?_
                    · intro w hs; exact trivial
                    refine at_thn ?_
                    refine at_ret ?_
                    refine at_then_ret ?_
                    obtain rfl := Option.some.inj H
                    refine at_done (vs := [.int .i64 2]) (obs := []) (.inl rfl) [.tmp 2] [] rfl (by kernel_rfl) (fun w hs => trivial) (fun w hs => ⟨_, _, [], rfl, ⟨rfl, rfl⟩, hle, hs⟩)
                  · rw [if_neg h294] at H
                    by_cases h295 : p137 ≥ 65281
                    · rw [if_pos h295] at H
                      by_cases h296 : p137 ≤ 65376
                      · rw [if_pos h296] at H
                        refine at_reg [(2, .bool false), (6, .bool false), (9, .bool true), (14, .bool false), (17, .bool false), (25, .bool false), (33, .bool true), (38, .bool false), (41, .bool true), (46, .bool true)] [67] (L2 := [(67, .bool true)]) (obs := [fun _ => (.bool (decide (p137 < 32)) : Value) = .bool false, fun _ => (.bool (p137 == 127) : Value) = .bool false, fun _ => (.bool (decide (p137 ≥ 4352)) : Value) = .bool true, fun _ => (.bool (decide (p137 ≤ 4447)) : Value) = .bool false, fun _ => (.bool (decide (p137 ≥ 11904)) : Value) = .bool false, fun _ => (.bool (decide (p137 ≥ 44032)) : Value) = .bool false, fun _ => (.bool (decide (p137 ≥ 63744)) : Value) = .bool true, fun _ => (.bool (decide (p137 ≤ 64255)) : Value) = .bool false, fun _ => (.bool (decide (p137 ≥ 65281)) : Value) = .bool true, fun _ => (.bool (decide (p137 ≤ 65376)) : Value) = .bool true]) (by kernel_rfl) ?_ ?_
                        · intro w hs; exact ⟨congrArg Value.bool (decide_eq_false h241), congrArg Value.bool (beq_eq_false_iff_ne.2 h242), congrArg Value.bool (decide_eq_true h243), congrArg Value.bool (decide_eq_false h244), congrArg Value.bool (decide_eq_false h245), congrArg Value.bool (decide_eq_false h277), congrArg Value.bool (decide_eq_true h293), congrArg Value.bool (decide_eq_false h294), congrArg Value.bool (decide_eq_true h295), congrArg Value.bool (decide_eq_true h296)⟩
                        refine at_thn ?_
                        refine at_cond_t rfl (rfl) ?_
                        refine at_seq ?_
                        refine at_reg [] [2] (L2 := [(2, .int .i64 2)]) (obs := []) (by kernel_rfl) ?_ ?_
                        · intro w hs; exact trivial
                        refine at_thn ?_
                        refine at_ret ?_
                        refine at_then_ret ?_
                        obtain rfl := Option.some.inj H
                        refine at_done (vs := [.int .i64 2]) (obs := []) (.inl rfl) [.tmp 2] [] rfl (by kernel_rfl) (fun w hs => trivial) (fun w hs => ⟨_, _, [], rfl, ⟨rfl, rfl⟩, hle, hs⟩)
                      · rw [if_neg h296] at H
                        by_cases h297 : p137 ≥ 127744
                        · rw [if_pos h297] at H
                          refine at_reg [(2, .bool false), (6, .bool false), (9, .bool true), (14, .bool false), (17, .bool false), (25, .bool false), (33, .bool true), (38, .bool false), (41, .bool true), (46, .bool false), (49, .bool true)] [67] (L2 := [(67, .bool (decide (p137 ≤ 129791)))]) (obs := [fun _ => (.bool (decide (p137 < 32)) : Value) = .bool false, fun _ => (.bool (p137 == 127) : Value) = .bool false, fun _ => (.bool (decide (p137 ≥ 4352)) : Value) = .bool true, fun _ => (.bool (decide (p137 ≤ 4447)) : Value) = .bool false, fun _ => (.bool (decide (p137 ≥ 11904)) : Value) = .bool false, fun _ => (.bool (decide (p137 ≥ 44032)) : Value) = .bool false, fun _ => (.bool (decide (p137 ≥ 63744)) : Value) = .bool true, fun _ => (.bool (decide (p137 ≤ 64255)) : Value) = .bool false, fun _ => (.bool (decide (p137 ≥ 65281)) : Value) = .bool true, fun _ => (.bool (decide (p137 ≤ 65376)) : Value) = .bool false, fun _ => (.bool (decide (p137 ≥ 127744)) : Value) = .bool true]) (by kernel_rfl) ?_ ?_
                          · intro w hs; exact ⟨congrArg Value.bool (decide_eq_false h241), congrArg Value.bool (beq_eq_false_iff_ne.2 h242), congrArg Value.bool (decide_eq_true h243), congrArg Value.bool (decide_eq_false h244), congrArg Value.bool (decide_eq_false h245), congrArg Value.bool (decide_eq_false h277), congrArg Value.bool (decide_eq_true h293), congrArg Value.bool (decide_eq_false h294), congrArg Value.bool (decide_eq_true h295), congrArg Value.bool (decide_eq_false h296), congrArg Value.bool (decide_eq_true h297)⟩
                          refine at_thn ?_
                          by_cases h298 : p137 ≤ 129791
                          · rw [if_pos h298] at H
                            refine at_cond_t rfl (decide_eq_true h298) ?_
                            refine at_seq ?_
                            refine at_reg [] [2] (L2 := [(2, .int .i64 2)]) (obs := []) (by kernel_rfl) ?_ ?_
                            · intro w hs; exact trivial
                            refine at_thn ?_
                            refine at_ret ?_
                            refine at_then_ret ?_
                            obtain rfl := Option.some.inj H
                            refine at_done (vs := [.int .i64 2]) (obs := []) (.inl rfl) [.tmp 2] [] rfl (by kernel_rfl) (fun w hs => trivial) (fun w hs => ⟨_, _, [], rfl, ⟨rfl, rfl⟩, hle, hs⟩)
                          · rw [if_neg h298] at H
                            refine at_cond_f rfl (decide_eq_false h298) ?_
                            refine at_skip ?_
                            refine at_thn ?_
                            refine at_seq ?_
                            refine at_reg [] [2] (L2 := [(2, .int .i64 1)]) (obs := []) (by kernel_rfl) ?_ ?_
                            · intro w hs; exact trivial
                            refine at_thn ?_
                            refine at_ret ?_
                            obtain rfl := Option.some.inj H
                            refine at_done (vs := [.int .i64 1]) (obs := []) (.inl rfl) [.tmp 2] [] rfl (by kernel_rfl) (fun w hs => trivial) (fun w hs => ⟨_, _, [], rfl, ⟨rfl, rfl⟩, hle, hs⟩)
                        · rw [if_neg h297] at H
                          refine at_reg [(2, .bool false), (6, .bool false), (9, .bool true), (14, .bool false), (17, .bool false), (25, .bool false), (33, .bool true), (38, .bool false), (41, .bool true), (46, .bool false), (49, .bool false)] [67] (L2 := [(67, .bool false)]) (obs := [fun _ => (.bool (decide (p137 < 32)) : Value) = .bool false, fun _ => (.bool (p137 == 127) : Value) = .bool false, fun _ => (.bool (decide (p137 ≥ 4352)) : Value) = .bool true, fun _ => (.bool (decide (p137 ≤ 4447)) : Value) = .bool false, fun _ => (.bool (decide (p137 ≥ 11904)) : Value) = .bool false, fun _ => (.bool (decide (p137 ≥ 44032)) : Value) = .bool false, fun _ => (.bool (decide (p137 ≥ 63744)) : Value) = .bool true, fun _ => (.bool (decide (p137 ≤ 64255)) : Value) = .bool false, fun _ => (.bool (decide (p137 ≥ 65281)) : Value) = .bool true, fun _ => (.bool (decide (p137 ≤ 65376)) : Value) = .bool false, fun _ => (.bool (decide (p137 ≥ 127744)) : Value) = .bool false]) (by kernel_rfl) ?_ ?_
                          · intro w hs; exact ⟨congrArg Value.bool (decide_eq_false h241), congrArg Value.bool (beq_eq_false_iff_ne.2 h242), congrArg Value.bool (decide_eq_true h243), congrArg Value.bool (decide_eq_false h244), congrArg Value.bool (decide_eq_false h245), congrArg Value.bool (decide_eq_false h277), congrArg Value.bool (decide_eq_true h293), congrArg Value.bool (decide_eq_false h294), congrArg Value.bool (decide_eq_true h295), congrArg Value.bool (decide_eq_false h296), congrArg Value.bool (decide_eq_false h297)⟩
                          refine at_thn ?_
                          refine at_cond_f rfl (rfl) ?_
                          refine at_skip ?_
                          refine at_thn ?_
                          refine at_seq ?_
                          refine at_reg [] [2] (L2 := [(2, .int .i64 1)]) (obs := []) (by kernel_rfl) ?_ ?_
                          · intro w hs; exact trivial
                          refine at_thn ?_
                          refine at_ret ?_
                          obtain rfl := Option.some.inj H
                          refine at_done (vs := [.int .i64 1]) (obs := []) (.inl rfl) [.tmp 2] [] rfl (by kernel_rfl) (fun w hs => trivial) (fun w hs => ⟨_, _, [], rfl, ⟨rfl, rfl⟩, hle, hs⟩)
                    · rw [if_neg h295] at H
                      by_cases h299 : p137 ≥ 127744
                      · rw [if_pos h299] at H
                        refine at_reg [(2, .bool false), (6, .bool false), (9, .bool true), (14, .bool false), (17, .bool false), (25, .bool false), (33, .bool true), (38, .bool false), (41, .bool false), (49, .bool true)] [67] (L2 := [(67, .bool (decide (p137 ≤ 129791)))]) (obs := [fun _ => (.bool (decide (p137 < 32)) : Value) = .bool false, fun _ => (.bool (p137 == 127) : Value) = .bool false, fun _ => (.bool (decide (p137 ≥ 4352)) : Value) = .bool true, fun _ => (.bool (decide (p137 ≤ 4447)) : Value) = .bool false, fun _ => (.bool (decide (p137 ≥ 11904)) : Value) = .bool false, fun _ => (.bool (decide (p137 ≥ 44032)) : Value) = .bool false, fun _ => (.bool (decide (p137 ≥ 63744)) : Value) = .bool true, fun _ => (.bool (decide (p137 ≤ 64255)) : Value) = .bool false, fun _ => (.bool (decide (p137 ≥ 65281)) : Value) = .bool false, fun _ => (.bool (decide (p137 ≥ 127744)) : Value) = .bool true]) (by kernel_rfl) ?_ ?_
                        · intro w hs; exact ⟨congrArg Value.bool (decide_eq_false h241), congrArg Value.bool (beq_eq_false_iff_ne.2 h242), congrArg Value.bool (decide_eq_true h243), congrArg Value.bool (decide_eq_false h244), congrArg Value.bool (decide_eq_false h245), congrArg Value.bool (decide_eq_false h277), congrArg Value.bool (decide_eq_true h293), congrArg Value.bool (decide_eq_false h294), congrArg Value.bool (decide_eq_false h295), congrArg Value.bool (decide_eq_true h299)⟩
                        refine at_thn ?_
                        by_cases h300 : p137 ≤ 129791
                        · rw [if_pos h300] at H
                          refine at_cond_t rfl (decide_eq_true h300) ?_
                          refine at_seq ?_
                          refine at_reg [] [2] (L2 := [(2, .int .i64 2)]) (obs := []) (by kernel_rfl) ?_ ?_
                          · intro w hs; exact trivial
                          refine at_thn ?_
                          refine at_ret ?_
                          refine at_then_ret ?_
                          obtain rfl := Option.some.inj H
                          refine at_done (vs := [.int .i64 2]) (obs := []) (.inl rfl) [.tmp 2] [] rfl (by kernel_rfl) (fun w hs => trivial) (fun w hs => ⟨_, _, [], rfl, ⟨rfl, rfl⟩, hle, hs⟩)
                        · rw [if_neg h300] at H
                          refine at_cond_f rfl (decide_eq_false h300) ?_
                          refine at_skip ?_
                          refine at_thn ?_
                          refine at_seq ?_
                          refine at_reg [] [2] (L2 := [(2, .int .i64 1)]) (obs := []) (by kernel_rfl) ?_ ?_
                          · intro w hs; exact trivial
                          refine at_thn ?_
                          refine at_ret ?_
                          obtain rfl := Option.some.inj H
                          refine at_done (vs := [.int .i64 1]) (obs := []) (.inl rfl) [.tmp 2] [] rfl (by kernel_rfl) (fun w hs => trivial) (fun w hs => ⟨_, _, [], rfl, ⟨rfl, rfl⟩, hle, hs⟩)
                      · rw [if_neg h299] at H
                        refine at_reg [(2, .bool false), (6, .bool false), (9, .bool true), (14, .bool false), (17, .bool false), (25, .bool false), (33, .bool true), (38, .bool false), (41, .bool false), (49, .bool false)] [67] (L2 := [(67, .bool false)]) (obs := [fun _ => (.bool (decide (p137 < 32)) : Value) = .bool false, fun _ => (.bool (p137 == 127) : Value) = .bool false, fun _ => (.bool (decide (p137 ≥ 4352)) : Value) = .bool true, fun _ => (.bool (decide (p137 ≤ 4447)) : Value) = .bool false, fun _ => (.bool (decide (p137 ≥ 11904)) : Value) = .bool false, fun _ => (.bool (decide (p137 ≥ 44032)) : Value) = .bool false, fun _ => (.bool (decide (p137 ≥ 63744)) : Value) = .bool true, fun _ => (.bool (decide (p137 ≤ 64255)) : Value) = .bool false, fun _ => (.bool (decide (p137 ≥ 65281)) : Value) = .bool false, fun _ => (.bool (decide (p137 ≥ 127744)) : Value) = .bool false]) (by kernel_rfl) ?_ ?_
                        · intro w hs; exact ⟨congrArg Value.bool (decide_eq_false h241), congrArg Value.bool (beq_eq_false_iff_ne.2 h242), congrArg Value.bool (decide_eq_true h243), congrArg Value.bool (decide_eq_false h244), congrArg Value.bool (decide_eq_false h245), congrArg Value.bool (decide_eq_false h277), congrArg Value.bool (decide_eq_true h293), congrArg Value.bool (decide_eq_false h294), congrArg Value.bool (decide_eq_false h295), congrArg Value.bool (decide_eq_false h299)⟩
                        refine at_thn ?_
                        refine at_cond_f rfl (rfl) ?_
                        refine at_skip ?_
                        refine at_thn ?_
                        refine at_seq ?_
                        refine at_reg [] [2] (L2 := [(2, .int .i64 1)]) (obs := []) (by kernel_rfl) ?_ ?_
                        · intro w hs; exact trivial
                        refine at_thn ?_
                        refine at_ret ?_
                        obtain rfl := Option.some.inj H
                        refine at_done (vs := [.int .i64 1]) (obs := []) (.inl rfl) [.tmp 2] [] rfl (by kernel_rfl) (fun w hs => trivial) (fun w hs => ⟨_, _, [], rfl, ⟨rfl, rfl⟩, hle, hs⟩)
                · rw [if_neg h293] at H
                  by_cases h301 : p137 ≥ 65281
                  · rw [if_pos h301] at H
                    by_cases h302 : p137 ≤ 65376
                    · rw [if_pos h302] at H
                      refine at_reg [(2, .bool false), (6, .bool false), (9, .bool true), (14, .bool false), (17, .bool false), (25, .bool false), (33, .bool false), (41, .bool true), (46, .bool true)] [67] (L2 := [(67, .bool true)]) (obs := [fun _ => (.bool (decide (p137 < 32)) : Value) = .bool false, fun _ => (.bool (p137 == 127) : Value) = .bool false, fun _ => (.bool (decide (p137 ≥ 4352)) : Value) = .bool true, fun _ => (.bool (decide (p137 ≤ 4447)) : Value) = .bool false, fun _ => (.bool (decide (p137 ≥ 11904)) : Value) = .bool false, fun _ => (.bool (decide (p137 ≥ 44032)) : Value) = .bool false, fun _ => (.bool (decide (p137 ≥ 63744)) : Value) = .bool false, fun _ => (.bool (decide (p137 ≥ 65281)) : Value) = .bool true, fun _ => (.bool (decide (p137 ≤ 65376)) : Value) = .bool true]) (by kernel_rfl) ?_ ?_
                      · intro w hs; exact ⟨congrArg Value.bool (decide_eq_false h241), congrArg Value.bool (beq_eq_false_iff_ne.2 h242), congrArg Value.bool (decide_eq_true h243), congrArg Value.bool (decide_eq_false h244), congrArg Value.bool (decide_eq_false h245), congrArg Value.bool (decide_eq_false h277), congrArg Value.bool (decide_eq_false h293), congrArg Value.bool (decide_eq_true h301), congrArg Value.bool (decide_eq_true h302)⟩
                      refine at_thn ?_
                      refine at_cond_t rfl (rfl) ?_
                      refine at_seq ?_
                      refine at_reg [] [2] (L2 := [(2, .int .i64 2)]) (obs := []) (by kernel_rfl) ?_ ?_
                      · intro w hs; exact trivial
                      refine at_thn ?_
                      refine at_ret ?_
                      refine at_then_ret ?_
                      obtain rfl := Option.some.inj H
                      refine at_done (vs := [.int .i64 2]) (obs := []) (.inl rfl) [.tmp 2] [] rfl (by kernel_rfl) (fun w hs => trivial) (fun w hs => ⟨_, _, [], rfl, ⟨rfl, rfl⟩, hle, hs⟩)
                    · rw [if_neg h302] at H
                      by_cases h303 : p137 ≥ 127744
                      · rw [if_pos h303] at H
                        refine at_reg [(2, .bool false), (6, .bool false), (9, .bool true), (14, .bool false), (17, .bool false), (25, .bool false), (33, .bool false), (41, .bool true), (46, .bool false), (49, .bool true)] [67] (L2 := [(67, .bool (decide (p137 ≤ 129791)))]) (obs := [fun _ => (.bool (decide (p137 < 32)) : Value) = .bool false, fun _ => (.bool (p137 == 127) : Value) = .bool false, fun _ => (.bool (decide (p137 ≥ 4352)) : Value) = .bool true, fun _ => (.bool (decide (p137 ≤ 4447)) : Value) = .bool false, fun _ => (.bool (decide (p137 ≥ 11904)) : Value) = .bool false, fun _ => (.bool (decide (p137 ≥ 44032)) : Value) = .bool false, fun _ => (.bool (decide (p137 ≥ 63744)) : Value) = .bool false, fun _ => (.bool (decide (p137 ≥ 65281)) : Value) = .bool true, fun _ => (.bool (decide (p137 ≤ 65376)) : Value) = .bool false, fun _ => (.bool (decide (p137 ≥ 127744)) : Value) = .bool true]) (by kernel_rfl) ?_ ?_
                        · intro w hs; exact ⟨congrArg Value.bool (decide_eq_false h241), congrArg Value.bool (beq_eq_false_iff_ne.2 h242), congrArg Value.bool (decide_eq_true h243), congrArg Value.bool (decide_eq_false h244), congrArg Value.bool (decide_eq_false h245), congrArg Value.bool (decide_eq_false h277), congrArg Value.bool (decide_eq_false h293), congrArg Value.bool (decide_eq_true h301), congrArg Value.bool (decide_eq_false h302), congrArg Value.bool (decide_eq_true h303)⟩
                        refine at_thn ?_
                        by_cases h304 : p137 ≤ 129791
                        · rw [if_pos h304] at H
                          refine at_cond_t rfl (decide_eq_true h304) ?_
                          refine at_seq ?_
                          refine at_reg [] [2] (L2 := [(2, .int .i64 2)]) (obs := []) (by kernel_rfl) ?_ ?_
                          · intro w hs; exact trivial
                          refine at_thn ?_
                          refine at_ret ?_
                          refine at_then_ret ?_
                          obtain rfl := Option.some.inj H
                          refine at_done (vs := [.int .i64 2]) (obs := []) (.inl rfl) [.tmp 2] [] rfl (by kernel_rfl) (fun w hs => trivial) (fun w hs => ⟨_, _, [], rfl, ⟨rfl, rfl⟩, hle, hs⟩)
                        · rw [if_neg h304] at H
                          refine at_cond_f rfl (decide_eq_false h304) ?_
                          refine at_skip ?_
                          refine at_thn ?_
                          refine at_seq ?_
                          refine at_reg [] [2] (L2 := [(2, .int .i64 1)]) (obs := []) (by kernel_rfl) ?_ ?_
                          · intro w hs; exact trivial
                          refine at_thn ?_
                          refine at_ret ?_
                          obtain rfl := Option.some.inj H
                          refine at_done (vs := [.int .i64 1]) (obs := []) (.inl rfl) [.tmp 2] [] rfl (by kernel_rfl) (fun w hs => trivial) (fun w hs => ⟨_, _, [], rfl, ⟨rfl, rfl⟩, hle, hs⟩)
                      · rw [if_neg h303] at H
                        refine at_reg [(2, .bool false), (6, .bool false), (9, .bool true), (14, .bool false), (17, .bool false), (25, .bool false), (33, .bool false), (41, .bool true), (46, .bool false), (49, .bool false)] [67] (L2 := [(67, .bool false)]) (obs := [fun _ => (.bool (decide (p137 < 32)) : Value) = .bool false, fun _ => (.bool (p137 == 127) : Value) = .bool false, fun _ => (.bool (decide (p137 ≥ 4352)) : Value) = .bool true, fun _ => (.bool (decide (p137 ≤ 4447)) : Value) = .bool false, fun _ => (.bool (decide (p137 ≥ 11904)) : Value) = .bool false, fun _ => (.bool (decide (p137 ≥ 44032)) : Value) = .bool false, fun _ => (.bool (decide (p137 ≥ 63744)) : Value) = .bool false, fun _ => (.bool (decide (p137 ≥ 65281)) : Value) = .bool true, fun _ => (.bool (decide (p137 ≤ 65376)) : Value) = .bool false, fun _ => (.bool (decide (p137 ≥ 127744)) : Value) = .bool false]) (by kernel_rfl) ?_ ?_
                        · intro w hs; exact ⟨congrArg Value.bool (decide_eq_false h241), congrArg Value.bool (beq_eq_false_iff_ne.2 h242), congrArg Value.bool (decide_eq_true h243), congrArg Value.bool (decide_eq_false h244), congrArg Value.bool (decide_eq_false h245), congrArg Value.bool (decide_eq_false h277), congrArg Value.bool (decide_eq_false h293), congrArg Value.bool (decide_eq_true h301), congrArg Value.bool (decide_eq_false h302), congrArg Value.bool (decide_eq_false h303)⟩
                        refine at_thn ?_
                        refine at_cond_f rfl (rfl) ?_
                        refine at_skip ?_
                        refine at_thn ?_
                        refine at_seq ?_
                        refine at_reg [] [2] (L2 := [(2, .int .i64 1)]) (obs := []) (by kernel_rfl) ?_ ?_
                        · intro w hs; exact trivial
                        refine at_thn ?_
                        refine at_ret ?_
                        obtain rfl := Option.some.inj H
                        refine at_done (vs := [.int .i64 1]) (obs := []) (.inl rfl) [.tmp 2] [] rfl (by kernel_rfl) (fun w hs => trivial) (fun w hs => ⟨_, _, [], rfl, ⟨rfl, rfl⟩, hle, hs⟩)
                  · rw [if_neg h301] at H
                    by_cases h305 : p137 ≥ 127744
                    · rw [if_pos h305] at H
                      refine at_reg [(2, .bool false), (6, .bool false), (9, .bool true), (14, .bool false), (17, .bool false), (25, .bool false), (33, .bool false), (41, .bool false), (49, .bool true)] [67] (L2 := [(67, .bool (decide (p137 ≤ 129791)))]) (obs := [fun _ => (.bool (decide (p137 < 32)) : Value) = .bool false, fun _ => (.bool (p137 == 127) : Value) = .bool false, fun _ => (.bool (decide (p137 ≥ 4352)) : Value) = .bool true, fun _ => (.bool (decide (p137 ≤ 4447)) : Value) = .bool false, fun _ => (.bool (decide (p137 ≥ 11904)) : Value) = .bool false, fun _ => (.bool (decide (p137 ≥ 44032)) : Value) = .bool false, fun _ => (.bool (decide (p137 ≥ 63744)) : Value) = .bool false, fun _ => (.bool (decide (p137 ≥ 65281)) : Value) = .bool false, fun _ => (.bool (decide (p137 ≥ 127744)) : Value) = .bool true]) (by kernel_rfl) ?_ ?_
                      · intro w hs; exact ⟨congrArg Value.bool (decide_eq_false h241), congrArg Value.bool (beq_eq_false_iff_ne.2 h242), congrArg Value.bool (decide_eq_true h243), congrArg Value.bool (decide_eq_false h244), congrArg Value.bool (decide_eq_false h245), congrArg Value.bool (decide_eq_false h277), congrArg Value.bool (decide_eq_false h293), congrArg Value.bool (decide_eq_false h301), congrArg Value.bool (decide_eq_true h305)⟩
                      refine at_thn ?_
                      by_cases h306 : p137 ≤ 129791
                      · rw [if_pos h306] at H
                        refine at_cond_t rfl (decide_eq_true h306) ?_
                        refine at_seq ?_
                        refine at_reg [] [2] (L2 := [(2, .int .i64 2)]) (obs := []) (by kernel_rfl) ?_ ?_
                        · intro w hs; exact trivial
                        refine at_thn ?_
                        refine at_ret ?_
                        refine at_then_ret ?_
                        obtain rfl := Option.some.inj H
                        refine at_done (vs := [.int .i64 2]) (obs := []) (.inl rfl) [.tmp 2] [] rfl (by kernel_rfl) (fun w hs => trivial) (fun w hs => ⟨_, _, [], rfl, ⟨rfl, rfl⟩, hle, hs⟩)
                      · rw [if_neg h306] at H
                        refine at_cond_f rfl (decide_eq_false h306) ?_
                        refine at_skip ?_
                        refine at_thn ?_
                        refine at_seq ?_
                        refine at_reg [] [2] (L2 := [(2, .int .i64 1)]) (obs := []) (by kernel_rfl) ?_ ?_
                        · intro w hs; exact trivial
                        refine at_thn ?_
                        refine at_ret ?_
                        obtain rfl := Option.some.inj H
                        refine at_done (vs := [.int .i64 1]) (obs := []) (.inl rfl) [.tmp 2] [] rfl (by kernel_rfl) (fun w hs => trivial) (fun w hs => ⟨_, _, [], rfl, ⟨rfl, rfl⟩, hle, hs⟩)
                    · rw [if_neg h305] at H
                      refine at_reg [(2, .bool false), (6, .bool false), (9, .bool true), (14, .bool false), (17, .bool false), (25, .bool false), (33, .bool false), (41, .bool false), (49, .bool false)] [67] (L2 := [(67, .bool false)]) (obs := [fun _ => (.bool (decide (p137 < 32)) : Value) = .bool false, fun _ => (.bool (p137 == 127) : Value) = .bool false, fun _ => (.bool (decide (p137 ≥ 4352)) : Value) = .bool true, fun _ => (.bool (decide (p137 ≤ 4447)) : Value) = .bool false, fun _ => (.bool (decide (p137 ≥ 11904)) : Value) = .bool false, fun _ => (.bool (decide (p137 ≥ 44032)) : Value) = .bool false, fun _ => (.bool (decide (p137 ≥ 63744)) : Value) = .bool false, fun _ => (.bool (decide (p137 ≥ 65281)) : Value) = .bool false, fun _ => (.bool (decide (p137 ≥ 127744)) : Value) = .bool false]) (by kernel_rfl) ?_ ?_
                      · intro w hs; exact ⟨congrArg Value.bool (decide_eq_false h241), congrArg Value.bool (beq_eq_false_iff_ne.2 h242), congrArg Value.bool (decide_eq_true h243), congrArg Value.bool (decide_eq_false h244), congrArg Value.bool (decide_eq_false h245), congrArg Value.bool (decide_eq_false h277), congrArg Value.bool (decide_eq_false h293), congrArg Value.bool (decide_eq_false h301), congrArg Value.bool (decide_eq_false h305)⟩
                      refine at_thn ?_
                      refine at_cond_f rfl (rfl) ?_
                      refine at_skip ?_
                      refine at_thn ?_
                      refine at_seq ?_
                      refine at_reg [] [2] (L2 := [(2, .int .i64 1)]) (obs := []) (by kernel_rfl) ?_ ?_
                      · intro w hs; exact trivial
                      refine at_thn ?_
                      refine at_ret ?_
                      obtain rfl := Option.some.inj H
                      refine at_done (vs := [.int .i64 1]) (obs := []) (.inl rfl) [.tmp 2] [] rfl (by kernel_rfl) (fun w hs => trivial) (fun w hs => ⟨_, _, [], rfl, ⟨rfl, rfl⟩, hle, hs⟩)
        · rw [if_neg h243] at H
          by_cases h307 : p137 ≥ 11904
          · rw [if_pos h307] at H
            by_cases h308 : p137 ≤ 42191
            · rw [if_pos h308] at H
              refine at_reg [(2, .bool false), (6, .bool false), (9, .bool false), (17, .bool true), (22, .bool true)] [67] (L2 := [(67, .bool true)]) (obs := [fun _ => (.bool (decide (p137 < 32)) : Value) = .bool false, fun _ => (.bool (p137 == 127) : Value) = .bool false, fun _ => (.bool (decide (p137 ≥ 4352)) : Value) = .bool false, fun _ => (.bool (decide (p137 ≥ 11904)) : Value) = .bool true, fun _ => (.bool (decide (p137 ≤ 42191)) : Value) = .bool true]) (by kernel_rfl) ?_ ?_
              · intro w hs; exact ⟨congrArg Value.bool (decide_eq_false h241), congrArg Value.bool (beq_eq_false_iff_ne.2 h242), congrArg Value.bool (decide_eq_false h243), congrArg Value.bool (decide_eq_true h307), congrArg Value.bool (decide_eq_true h308)⟩
              refine at_thn ?_
              refine at_cond_t rfl (rfl) ?_
              refine at_seq ?_
              refine at_reg [] [2] (L2 := [(2, .int .i64 2)]) (obs := []) (by kernel_rfl) ?_ ?_
              · intro w hs; exact trivial
              refine at_thn ?_
              refine at_ret ?_
              refine at_then_ret ?_
              obtain rfl := Option.some.inj H
              refine at_done (vs := [.int .i64 2]) (obs := []) (.inl rfl) [.tmp 2] [] rfl (by kernel_rfl) (fun w hs => trivial) (fun w hs => ⟨_, _, [], rfl, ⟨rfl, rfl⟩, hle, hs⟩)
            · rw [if_neg h308] at H
              by_cases h309 : p137 ≥ 44032
              · rw [if_pos h309] at H
                by_cases h310 : p137 ≤ 55203
                · rw [if_pos h310] at H
                  refine at_reg [(2, .bool false), (6, .bool false), (9, .bool false), (17, .bool true), (22, .bool false), (25, .bool true), (30, .bool true)] [67] (L2 := [(67, .bool true)]) (obs := [fun _ => (.bool (decide (p137 < 32)) : Value) = .bool false, fun _ => (.bool (p137 == 127) : Value) = .bool false, fun _ => (.bool (decide (p137 ≥ 4352)) : Value) = .bool false, fun _ => (.bool (decide (p137 ≥ 11904)) : Value) = .bool true, fun _ => (.bool (decide (p137 ≤ 42191)) : Value) = .bool false, fun _ => (.bool (decide (p137 ≥ 44032)) : Value) = .bool true, fun _ => (.bool (decide (p137 ≤ 55203)) : Value) = .bool true]) (by kernel_rfl) ?_ ?_
                  · intro w hs; exact ⟨congrArg Value.bool (decide_eq_false h241), congrArg Value.bool (beq_eq_false_iff_ne.2 h242), congrArg Value.bool (decide_eq_false h243), congrArg Value.bool (decide_eq_true h307), congrArg Value.bool (decide_eq_false h308), congrArg Value.bool (decide_eq_true h309), congrArg Value.bool (decide_eq_true h310)⟩
                  refine at_thn ?_
                  refine at_cond_t rfl (rfl) ?_
                  refine at_seq ?_
                  refine at_reg [] [2] (L2 := [(2, .int .i64 2)]) (obs := []) (by kernel_rfl) ?_ ?_
                  · intro w hs; exact trivial
                  refine at_thn ?_
                  refine at_ret ?_
                  refine at_then_ret ?_
                  obtain rfl := Option.some.inj H
                  refine at_done (vs := [.int .i64 2]) (obs := []) (.inl rfl) [.tmp 2] [] rfl (by kernel_rfl) (fun w hs => trivial) (fun w hs => ⟨_, _, [], rfl, ⟨rfl, rfl⟩, hle, hs⟩)
                · rw [if_neg h310] at H
                  by_cases h311 : p137 ≥ 63744
                  · rw [if_pos h311] at H
                    by_cases h312 : p137 ≤ 64255
                    · rw [if_pos h312] at H
                      refine at_reg [(2, .bool false), (6, .bool false), (9, .bool false), (17, .bool true), (22, .bool false), (25, .bool true), (30, .bool false), (33, .bool true), (38, .bool true)] [67] (L2 := [(67, .bool true)]) (obs := [fun _ => (.bool (decide (p137 < 32)) : Value) = .bool false, fun _ => (.bool (p137 == 127) : Value) = .bool false, fun _ => (.bool (decide (p137 ≥ 4352)) : Value) = .bool false, fun _ => (.bool (decide (p137 ≥ 11904)) : Value) = .bool true, fun _ => (.bool (decide (p137 ≤ 42191)) : Value) = .bool false, fun _ => (.bool (decide (p137 ≥ 44032)) : Value) = .bool true, fun _ => (.bool (decide (p137 ≤ 55203)) : Value) = .bool false, fun _ => (.bool (decide (p137 ≥ 63744)) : Value) = .bool true, fun _ => (.bool (decide (p137 ≤ 64255)) : Value) = .bool true]) (by kernel_rfl) ?_ ?_
                      · intro w hs; exact ⟨congrArg Value.bool (decide_eq_false h241), congrArg Value.bool (beq_eq_false_iff_ne.2 h242), congrArg Value.bool (decide_eq_false h243), congrArg Value.bool (decide_eq_true h307), congrArg Value.bool (decide_eq_false h308), congrArg Value.bool (decide_eq_true h309), congrArg Value.bool (decide_eq_false h310), congrArg Value.bool (decide_eq_true h311), congrArg Value.bool (decide_eq_true h312)⟩
                      refine at_thn ?_
                      refine at_cond_t rfl (rfl) ?_
                      refine at_seq ?_
                      refine at_reg [] [2] (L2 := [(2, .int .i64 2)]) (obs := []) (by kernel_rfl) ?_ ?_
                      · intro w hs; exact trivial
                      refine at_thn ?_
                      refine at_ret ?_
                      refine at_then_ret ?_
                      obtain rfl := Option.some.inj H
                      refine at_done (vs := [.int .i64 2]) (obs := []) (.inl rfl) [.tmp 2] [] rfl (by kernel_rfl) (fun w hs => trivial) (fun w hs => ⟨_, _, [], rfl, ⟨rfl, rfl⟩, hle, hs⟩)
                    · rw [if_neg h312] at H
                      by_cases h313 : p137 ≥ 65281
                      · rw [if_pos h313] at H
                        by_cases h314 : p137 ≤ 65376
                        · rw [if_pos h314] at H
                          refine at_reg [(2, .bool false), (6, .bool false), (9, .bool false), (17, .bool true), (22, .bool false), (25, .bool true), (30, .bool false), (33, .bool true), (38, .bool false), (41, .bool true), (46, .bool true)] [67] (L2 := [(67, .bool true)]) (obs := [fun _ => (.bool (decide (p137 < 32)) : Value) = .bool false, fun _ => (.bool (p137 == 127) : Value) = .bool false, fun _ => (.bool (decide (p137 ≥ 4352)) : Value) = .bool false, fun _ => (.bool (decide (p137 ≥ 11904)) : Value) = .bool true, fun _ => (.bool (decide (p137 ≤ 42191)) : Value) = .bool false, fun _ => (.bool (decide (p137 ≥ 44032)) : Value) = .bool true, fun _ => (.bool (decide (p137 ≤ 55203)) : Value) = .bool false, fun _ => (.bool (decide (p137 ≥ 63744)) : Value) = .bool true, fun _ => (.bool (decide (p137 ≤ 64255)) : Value) = .bool false, fun _ => (.bool (decide (p137 ≥ 65281)) : Value) = .bool true, fun _ => (.bool (decide (p137 ≤ 65376)) : Value) = .bool true]) (by kernel_rfl) ?_ ?_
                          · intro w hs; exact ⟨congrArg Value.bool (decide_eq_false h241), congrArg Value.bool (beq_eq_false_iff_ne.2 h242), congrArg Value.bool (decide_eq_false h243), congrArg Value.bool (decide_eq_true h307), congrArg Value.bool (decide_eq_false h308), congrArg Value.bool (decide_eq_true h309), congrArg Value.bool (decide_eq_false h310), congrArg Value.bool (decide_eq_true h311), congrArg Value.bool (decide_eq_false h312), congrArg Value.bool (decide_eq_true h313), congrArg Value.bool (decide_eq_true h314)⟩
                          refine at_thn ?_
                          refine at_cond_t rfl (rfl) ?_
                          refine at_seq ?_
                          refine at_reg [] [2] (L2 := [(2, .int .i64 2)]) (obs := []) (by kernel_rfl) ?_ ?_
                          · intro w hs; exact trivial
                          refine at_thn ?_
                          refine at_ret ?_
                          refine at_then_ret ?_
                          obtain rfl := Option.some.inj H
                          refine at_done (vs := [.int .i64 2]) (obs := []) (.inl rfl) [.tmp 2] [] rfl (by kernel_rfl) (fun w hs => trivial) (fun w hs => ⟨_, _, [], rfl, ⟨rfl, rfl⟩, hle, hs⟩)
                        · rw [if_neg h314] at H
                          by_cases h315 : p137 ≥ 127744
                          · rw [if_pos h315] at H
                            refine at_reg [(2, .bool false), (6, .bool false), (9, .bool false), (17, .bool true), (22, .bool false), (25, .bool true), (30, .bool false), (33, .bool true), (38, .bool false), (41, .bool true), (46, .bool false), (49, .bool true)] [67] (L2 := [(67, .bool (decide (p137 ≤ 129791)))]) (obs := [fun _ => (.bool (decide (p137 < 32)) : Value) = .bool false, fun _ => (.bool (p137 == 127) : Value) = .bool false, fun _ => (.bool (decide (p137 ≥ 4352)) : Value) = .bool false, fun _ => (.bool (decide (p137 ≥ 11904)) : Value) = .bool true, fun _ => (.bool (decide (p137 ≤ 42191)) : Value) = .bool false, fun _ => (.bool (decide (p137 ≥ 44032)) : Value) = .bool true, fun _ => (.bool (decide (p137 ≤ 55203)) : Value) = .bool false, fun _ => (.bool (decide (p137 ≥ 63744)) : Value) = .bool true, fun _ => (.bool (decide (p137 ≤ 64255)) : Value) = .bool false, fun _ => (.bool (decide (p137 ≥ 65281)) : Value) = .bool true, fun _ => (.bool (decide (p137 ≤ 65376)) : Value) = .bool false, fun _ => (.bool (decide (p137 ≥ 127744)) : Value) = .bool true]) (by kernel_rfl) ?_ ?_
                            · intro w hs; exact ⟨congrArg Value.bool (decide_eq_false h241), congrArg Value.bool (beq_eq_false_iff_ne.2 h242), congrArg Value.bool (decide_eq_false h243), congrArg Value.bool (decide_eq_true h307), congrArg Value.bool (decide_eq_false h308), congrArg Value.bool (decide_eq_true h309), congrArg Value.bool (decide_eq_false h310), congrArg Value.bool (decide_eq_true h311), congrArg Value.bool (decide_eq_false h312), congrArg Value.bool (decide_eq_true h313), congrArg Value.bool (decide_eq_false h314), congrArg Value.bool (decide_eq_true h315)⟩
                            refine at_thn ?_
                            by_cases h316 : p137 ≤ 129791
                            · rw [if_pos h316] at H
                              refine at_cond_t rfl (decide_eq_true h316) ?_
                              refine at_seq ?_
                              refine at_reg [] [2] (L2 := [(2, .int .i64 2)]) (obs := []) (by kernel_rfl) ?_ ?_
                              · intro w hs; exact trivial
                              refine at_thn ?_
                              refine at_ret ?_
                              refine at_then_ret ?_
                              obtain rfl := Option.some.inj H
                              refine at_done (vs := [.int .i64 2]) (obs := []) (.inl rfl) [.tmp 2] [] rfl (by kernel_rfl) (fun w hs => trivial) (fun w hs => ⟨_, _, [], rfl, ⟨rfl, rfl⟩, hle, hs⟩)
                            · rw [if_neg h316] at H
                              refine at_cond_f rfl (decide_eq_false h316) ?_
                              refine at_skip ?_
                              refine at_thn ?_
                              refine at_seq ?_
                              refine at_reg [] [2] (L2 := [(2, .int .i64 1)]) (obs := []) (by kernel_rfl) ?_ ?_
                              · intro w hs; exact trivial
                              refine at_thn ?_
                              refine at_ret ?_
                              obtain rfl := Option.some.inj H
                              refine at_done (vs := [.int .i64 1]) (obs := []) (.inl rfl) [.tmp 2] [] rfl (by kernel_rfl) (fun w hs => trivial) (fun w hs => ⟨_, _, [], rfl, ⟨rfl, rfl⟩, hle, hs⟩)
                          · rw [if_neg h315] at H
                            refine at_reg [(2, .bool false), (6, .bool false), (9, .bool false), (17, .bool true), (22, .bool false), (25, .bool true), (30, .bool false), (33, .bool true), (38, .bool false), (41, .bool true), (46, .bool false), (49, .bool false)] [67] (L2 := [(67, .bool false)]) (obs := [fun _ => (.bool (decide (p137 < 32)) : Value) = .bool false, fun _ => (.bool (p137 == 127) : Value) = .bool false, fun _ => (.bool (decide (p137 ≥ 4352)) : Value) = .bool false, fun _ => (.bool (decide (p137 ≥ 11904)) : Value) = .bool true, fun _ => (.bool (decide (p137 ≤ 42191)) : Value) = .bool false, fun _ => (.bool (decide (p137 ≥ 44032)) : Value) = .bool true, fun _ => (.bool (decide (p137 ≤ 55203)) : Value) = .bool false, fun _ => (.bool (decide (p137 ≥ 63744)) : Value) = .bool true, fun _ => (.bool (decide (p137 ≤ 64255)) : Value) = .bool false, fun _ => (.bool (decide (p137 ≥ 65281)) : Value) = .bool true, fun _ => (.bool (decide (p137 ≤ 65376)) : Value) = .bool false, fun _ => (.bool (decide (p137 ≥ 127744)) : Value) = .bool false]) (by kernel_rfl) ?_ ?_
                            · intro w hs; exact ⟨congrArg Value.bool (decide_eq_false h241), congrArg Value.bool (beq_eq_false_iff_ne.2 h242), congrArg Value.bool (decide_eq_false h243), congrArg Value.bool (decide_eq_true h307), congrArg Value.bool (decide_eq_false h308), congrArg Value.bool (decide_eq_true h309), congrArg Value.bool (decide_eq_false h310), congrArg Value.bool (decide_eq_true h311), congrArg Value.bool (decide_eq_false h312), congrArg Value.bool (decide_eq_true h313), congrArg Value.bool (decide_eq_false h314), congrArg Value.bool (decide_eq_false h315)⟩
                            refine at_thn ?_
                            refine at_cond_f rfl (rfl) ?_
                            refine at_skip ?_
                            refine at_thn ?_
                            refine at_seq ?_
                            refine at_reg [] [2] (L2 := [(2, .int .i64 1)]) (obs := []) (by kernel_rfl) ?_ ?_
                            · intro w hs; exact trivial
                            refine at_thn ?_
                            refine at_ret ?_
                            obtain rfl := Option.some.inj H
                            refine at_done (vs := [.int .i64 1]) (obs := []) (.inl rfl) [.tmp 2] [] rfl (by kernel_rfl) (fun w hs => trivial) (fun w hs => ⟨_, _, [], rfl, ⟨rfl, rfl⟩, hle, hs⟩)
                      · rw [if_neg h313] at H
                        by_cases h317 : p137 ≥ 127744
                        · rw [if_pos h317] at H
                          refine at_reg [(2, .bool false), (6, .bool false), (9, .bool false), (17, .bool true), (22, .bool false), (25, .bool true), (30, .bool false), (33, .bool true), (38, .bool false), (41, .bool false), (49, .bool true)] [67] (L2 := [(67, .bool (decide (p137 ≤ 129791)))]) (obs := [fun _ => (.bool (decide (p137 < 32)) : Value) = .bool false, fun _ => (.bool (p137 == 127) : Value) = .bool false, fun _ => (.bool (decide (p137 ≥ 4352)) : Value) = .bool false, fun _ => (.bool (decide (p137 ≥ 11904)) : Value) = .bool true, fun _ => (.bool (decide (p137 ≤ 42191)) : Value) = .bool false, fun _ => (.bool (decide (p137 ≥ 44032)) : Value) = .bool true, fun _ => (.bool (decide (p137 ≤ 55203)) : Value) = .bool false, fun _ => (.bool (decide (p137 ≥ 63744)) : Value) = .bool true, fun _ => (.bool (decide (p137 ≤ 64255)) : Value) = .bool false, fun _ => (.bool (decide (p137 ≥ 65281)) : Value) = .bool false, fun _ => (.bool (decide (p137 ≥ 127744)) : Value) = .bool true]) (by kernel_rfl) ?_ ?_
                          · intro w hs; exact ⟨congrArg Value.bool (decide_eq_false h241), congrArg Value.bool (beq_eq_false_iff_ne.2 h242), congrArg Value.bool (decide_eq_false h243), congrArg Value.bool (decide_eq_true h307), congrArg Value.bool (decide_eq_false h308), congrArg Value.bool (decide_eq_true h309), congrArg Value.bool (decide_eq_false h310), congrArg Value.bool (decide_eq_true h311), congrArg Value.bool (decide_eq_false h312), congrArg Value.bool (decide_eq_false h313), congrArg Value.bool (decide_eq_true h317)⟩
                          refine at_thn ?_
                          by_cases h318 : p137 ≤ 129791
                          · rw [if_pos h318] at H
                            refine at_cond_t rfl (decide_eq_true h318) ?_
                            refine at_seq ?_
                            refine at_reg [] [2] (L2 := [(2, .int .i64 2)]) (obs := []) (by kernel_rfl) ?_ ?_
                            · intro w hs; exact trivial
                            refine at_thn ?_
                            refine at_ret ?_
                            refine at_then_ret ?_
                            obtain rfl := Option.some.inj H
                            refine at_done (vs := [.int .i64 2]) (obs := []) (.inl rfl) [.tmp 2] [] rfl (by kernel_rfl) (fun w hs => trivial) (fun w hs => ⟨_, _, [], rfl, ⟨rfl, rfl⟩, hle, hs⟩)
                          · rw [if_neg h318] at H
                            refine at_cond_f rfl (decide_eq_false h318) ?_
                            refine at_skip ?_
                            refine at_thn ?_
                            refine at_seq ?_
                            refine at_reg [] [2] (L2 := [(2, .int .i64 1)]) (obs := []) (by kernel_rfl) ?_ ?_
                            · intro w hs; exact trivial
                            refine at_thn ?_
                            refine at_ret ?_
                            obtain rfl := Option.some.inj H
                            refine at_done (vs := [.int .i64 1]) (obs := []) (.inl rfl) [.tmp 2] [] rfl (by kernel_rfl) (fun w hs => trivial) (fun w hs => ⟨_, _, [], rfl, ⟨rfl, rfl⟩, hle, hs⟩)
                        · rw [if_neg h317] at H
                          refine at_reg [(2, .bool false), (6, .bool false), (9, .bool false), (17, .bool true), (22, .bool false), (25, .bool true), (30, .bool false), (33, .bool true), (38, .bool false), (41, .bool false), (49, .bool false)] [67] (L2 := [(67, .bool false)]) (obs := [fun _ => (.bool (decide (p137 < 32)) : Value) = .bool false, fun _ => (.bool (p137 == 127) : Value) = .bool false, fun _ => (.bool (decide (p137 ≥ 4352)) : Value) = .bool false, fun _ => (.bool (decide (p137 ≥ 11904)) : Value) = .bool true, fun _ => (.bool (decide (p137 ≤ 42191)) : Value) = .bool false, fun _ => (.bool (decide (p137 ≥ 44032)) : Value) = .bool true, fun _ => (.bool (decide (p137 ≤ 55203)) : Value) = .bool false, fun _ => (.bool (decide (p137 ≥ 63744)) : Value) = .bool true, fun _ => (.bool (decide (p137 ≤ 64255)) : Value) = .bool false, fun _ => (.bool (decide (p137 ≥ 65281)) : Value) = .bool false, fun _ => (.bool (decide (p137 ≥ 127744)) : Value) = .bool false]) (by kernel_rfl) ?_ ?_
                          · intro w hs; exact ⟨congrArg Value.bool (decide_eq_false h241), congrArg Value.bool (beq_eq_false_iff_ne.2 h242), congrArg Value.bool (decide_eq_false h243), congrArg Value.bool (decide_eq_true h307), congrArg Value.bool (decide_eq_false h308), congrArg Value.bool (decide_eq_true h309), congrArg Value.bool (decide_eq_false h310), congrArg Value.bool (decide_eq_true h311), congrArg Value.bool (decide_eq_false h312), congrArg Value.bool (decide_eq_false h313), congrArg Value.bool (decide_eq_false h317)⟩
                          refine at_thn ?_
                          refine at_cond_f rfl (rfl) ?_
                          refine at_skip ?_
                          refine at_thn ?_
                          refine at_seq ?_
                          refine at_reg [] [2] (L2 := [(2, .int .i64 1)]) (obs := []) (by kernel_rfl) ?_ ?_
                          · intro w hs; exact trivial
                          refine at_thn ?_
                          refine at_ret ?_
                          obtain rfl := Option.some.inj H
                          refine at_done (vs := [.int .i64 1]) (obs := []) (.inl rfl) [.tmp 2] [] rfl (by kernel_rfl) (fun w hs => trivial) (fun w hs => ⟨_, _, [], rfl, ⟨rfl, rfl⟩, hle, hs⟩)
                  · rw [if_neg h311] at H
                    by_cases h319 : p137 ≥ 65281
                    · rw [if_pos h319] at H
                      by_cases h320 : p137 ≤ 65376
                      · rw [if_pos h320] at H
                        refine at_reg [(2, .bool false), (6, .bool false), (9, .bool false), (17, .bool true), (22, .bool false), (25, .bool true), (30, .bool false), (33, .bool false), (41, .bool true), (46, .bool true)] [67] (L2 := [(67, .bool true)]) (obs := [fun _ => (.bool (decide (p137 < 32)) : Value) = .bool false, fun _ => (.bool (p137 == 127) : Value) = .bool false, fun _ => (.bool (decide (p137 ≥ 4352)) : Value) = .bool false, fun _ => (.bool (decide (p137 ≥ 11904)) : Value) = .bool true, fun _ => (.bool (decide (p137 ≤ 42191)) : Value) = .bool false, fun _ => (.bool (decide (p137 ≥ 44032)) : Value) = .bool true, fun _ => (.bool (decide (p137 ≤ 55203)) : Value) = .bool false, fun _ => (.bool (decide (p137 ≥ 63744)) : Value) = .bool false, fun _ => (.bool (decide (p137 ≥ 65281)) : Value) = .bool true, fun _ => (.bool (decide (p137 ≤ 65376)) : Value) = .bool true]) (by kernel_rfl) ?_ ?_
                        · intro w hs; exact ⟨congrArg Value.bool (decide_eq_false h241), congrArg Value.bool (beq_eq_false_iff_ne.2 h242), congrArg Value.bool (decide_eq_false h243), congrArg Value.bool (decide_eq_true h307), congrArg Value.bool (decide_eq_false h308), congrArg Value.bool (decide_eq_true h309), congrArg Value.bool (decide_eq_false h310), congrArg Value.bool (decide_eq_false h311), congrArg Value.bool (decide_eq_true h319), congrArg Value.bool (decide_eq_true h320)⟩
                        refine at_thn ?_
                        refine at_cond_t rfl (rfl) ?_
                        refine at_seq ?_
                        refine at_reg [] [2] (L2 := [(2, .int .i64 2)]) (obs := []) (by kernel_rfl) ?_ ?_
                        · intro w hs; exact trivial
                        refine at_thn ?_
                        refine at_ret ?_
                        refine at_then_ret ?_
                        obtain rfl := Option.some.inj H
                        refine at_done (vs := [.int .i64 2]) (obs := []) (.inl rfl) [.tmp 2] [] rfl (by kernel_rfl) (fun w hs => trivial) (fun w hs => ⟨_, _, [], rfl, ⟨rfl, rfl⟩, hle, hs⟩)
                      · rw [if_neg h320] at H
                        by_cases h321 : p137 ≥ 127744
                        · rw [if_pos h321] at H
                          refine at_reg [(2, .bool false), (6, .bool false), (9, .bool false), (17, .bool true), (22, .bool false), (25, .bool true), (30, .bool false), (33, .bool false), (41, .bool true), (46, .bool false), (49, .bool true)] [67] (L2 := [(67, .bool (decide (p137 ≤ 129791)))]) (obs := [fun _ => (.bool (decide (p137 < 32)) : Value) = .bool false, fun _ => (.bool (p137 == 127) : Value) = .bool false, fun _ => (.bool (decide (p137 ≥ 4352)) : Value) = .bool false, fun _ => (.bool (decide (p137 ≥ 11904)) : Value) = .bool true, fun _ => (.bool (decide (p137 ≤ 42191)) : Value) = .bool false, fun _ => (.bool (decide (p137 ≥ 44032)) : Value) = .bool true, fun _ => (.bool (decide (p137 ≤ 55203)) : Value) = .bool false, fun _ => (.bool (decide (p137 ≥ 63744)) : Value) = .bool false, fun _ => (.bool (decide (p137 ≥ 65281)) : Value) = .bool true, fun _ => (.bool (decide (p137 ≤ 65376)) : Value) = .bool false, fun _ => (.bool (decide (p137 ≥ 127744)) : Value) = .bool true]) (by kernel_rfl) ?_ ?_
                          · intro w hs; exact ⟨congrArg Value.bool (decide_eq_false h241), congrArg Value.bool (beq_eq_false_iff_ne.2 h242), congrArg Value.bool (decide_eq_false h243), congrArg Value.bool (decide_eq_true h307), congrArg Value.bool (decide_eq_false h308), congrArg Value.bool (decide_eq_true h309), congrArg Value.bool (decide_eq_false h310), congrArg Value.bool (decide_eq_false h311), congrArg Value.bool (decide_eq_true h319), congrArg Value.bool (decide_eq_false h320), congrArg Value.bool (decide_eq_true h321)⟩
                          refine at_thn ?_
                          by_cases h322 : p137 ≤ 129791
                          · rw [if_pos h322] at H
                            refine at_cond_t rfl (decide_eq_true h322) ?_
                            refine at_seq ?_
                            refine at_reg [] [2] (L2 := [(2, .int .i64 2)]) (obs := []) (by kernel_rfl) ?_ ?_
                            · intro w hs; exact trivial
                            refine at_thn ?_
                            refine at_ret ?_
                            refine at_then_ret ?_
                            obtain rfl := Option.some.inj H
                            refine at_done (vs := [.int .i64 2]) (obs := []) (.inl rfl) [.tmp 2] [] rfl (by kernel_rfl) (fun w hs => trivial) (fun w hs => ⟨_, _, [], rfl, ⟨rfl, rfl⟩, hle, hs⟩)
                          · rw [if_neg h322] at H
                            refine at_cond_f rfl (decide_eq_false h322) ?_
                            refine at_skip ?_
                            refine at_thn ?_
                            refine at_seq ?_
                            refine at_reg [] [2] (L2 := [(2, .int .i64 1)]) (obs := []) (by kernel_rfl) ?_ ?_
                            · intro w hs; exact trivial
                            refine at_thn ?_
                            refine at_ret ?_
                            obtain rfl := Option.some.inj H
                            refine at_done (vs := [.int .i64 1]) (obs := []) (.inl rfl) [.tmp 2] [] rfl (by kernel_rfl) (fun w hs => trivial) (fun w hs => ⟨_, _, [], rfl, ⟨rfl, rfl⟩, hle, hs⟩)
                        · rw [if_neg h321] at H
                          refine at_reg [(2, .bool false), (6, .bool false), (9, .bool false), (17, .bool true), (22, .bool false), (25, .bool true), (30, .bool false), (33, .bool false), (41, .bool true), (46, .bool false), (49, .bool false)] [67] (L2 := [(67, .bool false)]) (obs := [fun _ => (.bool (decide (p137 < 32)) : Value) = .bool false, fun _ => (.bool (p137 == 127) : Value) = .bool false, fun _ => (.bool (decide (p137 ≥ 4352)) : Value) = .bool false, fun _ => (.bool (decide (p137 ≥ 11904)) : Value) = .bool true, fun _ => (.bool (decide (p137 ≤ 42191)) : Value) = .bool false, fun _ => (.bool (decide (p137 ≥ 44032)) : Value) = .bool true, fun _ => (.bool (decide (p137 ≤ 55203)) : Value) = .bool false, fun _ => (.bool (decide (p137 ≥ 63744)) : Value) = .bool false, fun _ => (.bool (decide (p137 ≥ 65281)) : Value) = .bool true, fun _ => (.bool (decide (p137 ≤ 65376)) : Value) = .bool false, fun _ => (.bool (decide (p137 ≥ 127744)) : Value) = .bool false]) (by kernel_rfl) ?_ ?_
                          · intro w hs; exact ⟨congrArg Value.bool (decide_eq_false h241), congrArg Value.bool (beq_eq_false_iff_ne.2 h242), congrArg Value.bool (decide_eq_false h243), congrArg Value.bool (decide_eq_true h307), congrArg Value.bool (decide_eq_false h308), congrArg Value.bool (decide_eq_true h309), congrArg Value.bool (decide_eq_false h310), congrArg Value.bool (decide_eq_false h311), congrArg Value.bool (decide_eq_true h319), congrArg Value.bool (decide_eq_false h320), congrArg Value.bool (decide_eq_false h321)⟩
                          refine at_thn ?_
                          refine at_cond_f rfl (rfl) ?_
                          refine at_skip ?_
                          refine at_thn ?_
                          refine at_seq ?_
                          refine at_reg [] [2] (L2 := [(2, .int .i64 1)]) (obs := []) (by kernel_rfl) ?_ ?_
                          · intro w hs; exact trivial
                          refine at_thn ?_
                          refine at_ret ?_
                          obtain rfl := Option.some.inj H
                          refine at_done (vs := [.int .i64 1]) (obs := []) (.inl rfl) [.tmp 2] [] rfl (by kernel_rfl) (fun w hs => trivial) (fun w hs => ⟨_, _, [], rfl, ⟨rfl, rfl⟩, hle, hs⟩)
                    · rw [if_neg h319] at H
                      by_cases h323 : p137 ≥ 127744
                      · rw [if_pos h323] at H
                        refine at_reg [(2, .bool false), (6, .bool false), (9, .bool false), (17, .bool true), (22, .bool false), (25, .bool true), (30, .bool false), (33, .bool false), (41, .bool false), (49, .bool true)] [67] (L2 := [(67, .bool (decide (p137 ≤ 129791)))]) (obs := [fun _ => (.bool (decide (p137 < 32)) : Value) = .bool false, fun _ => (.bool (p137 == 127) : Value) = .bool false, fun _ => (.bool (decide (p137 ≥ 4352)) : Value) = .bool false, fun _ => (.bool (decide (p137 ≥ 11904)) : Value) = .bool true, fun _ => (.bool (decide (p137 ≤ 42191)) : Value) = .bool false, fun _ => (.bool (decide (p137 ≥ 44032)) : Value) = .bool true, fun _ => (.bool (decide (p137 ≤ 55203)) : Value) = .bool false, fun _ => (.bool (decide (p137 ≥ 63744)) : Value) = .bool false, fun _ => (.bool (decide (p137 ≥ 65281)) : Value) = .bool false, fun _ => (.bool (decide (p137 ≥ 127744)) : Value) = .bool true]) (by kernel_rfl) ?_ ?_
                        · intro w hs; exact ⟨congrArg Value.bool (decide_eq_false h241), congrArg Value.bool (beq_eq_false_iff_ne.2 h242), congrArg Value.bool (decide_eq_false h243), congrArg Value.bool (decide_eq_true h307), congrArg Value.bool (decide_eq_false h308), congrArg Value.bool (decide_eq_true h309), congrArg Value.bool (decide_eq_false h310), congrArg Value.bool (decide_eq_false h311), congrArg Value.bool (decide_eq_false h319), congrArg Value.bool (decide_eq_true h323)⟩
                        refine at_thn ?_
                        by_cases h324 : p137 ≤ 129791
                        · rw [if_pos h324] at H
                          refine at_cond_t rfl (decide_eq_true h324) ?_
                          refine at_seq ?_
                          refine at_reg [] [2] (L2 := [(2, .int .i64 2)]) (obs := []) (by kernel_rfl) ?_ ?_
                          · intro w hs; exact trivial
                          refine at_thn ?_
                          refine at_ret ?_
                          refine at_then_ret ?_
                          obtain rfl := Option.some.inj H
                          refine at_done (vs := [.int .i64 2]) (obs := []) (.inl rfl) [.tmp 2] [] rfl (by kernel_rfl) (fun w hs => trivial) (fun w hs => ⟨_, _, [], rfl, ⟨rfl, rfl⟩, hle, hs⟩)
                        · rw [if_neg h324] at H
                          refine at_cond_f rfl (decide_eq_false h324) ?_
                          refine at_skip ?_
                          refine at_thn ?_
                          refine at_seq ?_
                          refine at_reg [] [2] (L2 := [(2, .int .i64 1)]) (obs := []) (by kernel_rfl) ?_ ?_
                          · intro w hs; exact trivial
                          refine at_thn ?_
                          refine at_ret ?_
                          obtain rfl := Option.some.inj H
                          refine at_done (vs := [.int .i64 1]) (obs := []) (.inl rfl) [.tmp 2] [] rfl (by kernel_rfl) (fun w hs => trivial) (fun w hs => ⟨_, _, [], rfl, ⟨rfl, rfl⟩, hle, hs⟩)
                      · rw [if_neg h323] at H
                        refine at_reg [(2, .bool false), (6, .bool false), (9, .bool false), (17, .bool true), (22, .bool false), (25, .bool true), (30, .bool false), (33, .bool false), (41, .bool false), (49, .bool false)] [67] (L2 := [(67, .bool false)]) (obs := [fun _ => (.bool (decide (p137 < 32)) : Value) = .bool false, fun _ => (.bool (p137 == 127) : Value) = .bool false, fun _ => (.bool (decide (p137 ≥ 4352)) : Value) = .bool false, fun _ => (.bool (decide (p137 ≥ 11904)) : Value) = .bool true, fun _ => (.bool (decide (p137 ≤ 42191)) : Value) = .bool false, fun _ => (.bool (decide (p137 ≥ 44032)) : Value) = .bool true, fun _ => (.bool (decide (p137 ≤ 55203)) : Value) = .bool false, fun _ => (.bool (decide (p137 ≥ 63744)) : Value) = .bool false, fun _ => (.bool (decide (p137 ≥ 65281)) : Value) = .bool false, fun _ => (.bool (decide (p137 ≥ 127744)) : Value) = .bool false]) (by kernel_rfl) ?_ ?_
                        · intro w hs; exact ⟨congrArg Value.bool (decide_eq_false h241), congrArg Value.bool (beq_eq_false_iff_ne.2 h242), congrArg Value.bool (decide_eq_false h243), congrArg Value.bool (decide_eq_true h307), congrArg Value.bool (decide_eq_false h308), congrArg Value.bool (decide_eq_true h309), congrArg Value.bool (decide_eq_false h310), congrArg Value.bool (decide_eq_false h311), congrArg Value.bool (decide_eq_false h319), congrArg Value.bool (decide_eq_false h323)⟩
                        refine at_thn ?_
                        refine at_cond_f rfl (rfl) ?_
                        refine at_skip ?_
                        refine at_thn ?_
                        refine at_seq ?_
                        refine at_reg [] [2] (L2 := [(2, .int .i64 1)]) (obs := []) (by kernel_rfl) ?_ ?_
                        · intro w hs; exact trivial
                        refine at_thn ?_
                        refine at_ret ?_
                        obtain rfl := Option.some.inj H
                        refine at_done (vs := [.int .i64 1]) (obs := []) (.inl rfl) [.tmp 2] [] rfl (by kernel_rfl) (fun w hs => trivial) (fun w hs => ⟨_, _, [], rfl, ⟨rfl, rfl⟩, hle, hs⟩)
              · rw [if_neg h309] at H
                by_cases h325 : p137 ≥ 63744
                · rw [if_pos h325] at H
                  by_cases h326 : p137 ≤ 64255
                  · rw [if_pos h326] at H
                    refine at_reg [(2, .bool false), (6, .bool false), (9, .bool false), (17, .bool true), (22, .bool false), (25, .bool false), (33, .bool true), (38, .bool true)] [67] (L2 := [(67, .bool true)]) (obs := [fun _ => (.bool (decide (p137 < 32)) : Value) = .bool false, fun _ => (.bool (p137 == 127) : Value) = .bool false, fun _ => (.bool (decide (p137 ≥ 4352)) : Value) = .bool false, fun _ => (.bool (decide (p137 ≥ 11904)) : Value) = .bool true, fun _ => (.bool (decide (p137 ≤ 42191)) : Value) = .bool false, fun _ => (.bool (decide (p137 ≥ 44032)) : Value) = .bool false, fun _ => (.bool (decide (p137 ≥ 63744)) : Value) = .bool true, fun _ => (.bool (decide (p137 ≤ 64255)) : Value) = .bool true]) (by kernel_rfl) ?_ ?_
                    · intro w hs; exact ⟨congrArg Value.bool (decide_eq_false h241), congrArg Value.bool (beq_eq_false_iff_ne.2 h242), congrArg Value.bool (decide_eq_false h243), congrArg Value.bool (decide_eq_true h307), congrArg Value.bool (decide_eq_false h308), congrArg Value.bool (decide_eq_false h309), congrArg Value.bool (decide_eq_true h325), congrArg Value.bool (decide_eq_true h326)⟩
                    refine at_thn ?_
                    refine at_cond_t rfl (rfl) ?_
                    refine at_seq ?_
                    refine at_reg [] [2] (L2 := [(2, .int .i64 2)]) (obs := []) (by kernel_rfl) ?_ ?_
                    · intro w hs; exact trivial
                    refine at_thn ?_
                    refine at_ret ?_
                    refine at_then_ret ?_
                    obtain rfl := Option.some.inj H
                    refine at_done (vs := [.int .i64 2]) (obs := []) (.inl rfl) [.tmp 2] [] rfl (by kernel_rfl) (fun w hs => trivial) (fun w hs => ⟨_, _, [], rfl, ⟨rfl, rfl⟩, hle, hs⟩)
                  · rw [if_neg h326] at H
                    by_cases h327 : p137 ≥ 65281
                    · rw [if_pos h327] at H
                      by_cases h328 : p137 ≤ 65376
                      · rw [if_pos h328] at H
                        refine at_reg [(2, .bool false), (6, .bool false), (9, .bool false), (17, .bool true), (22, .bool false), (25, .bool false), (33, .bool true), (38, .bool false), (41, .bool true), (46, .bool true)] [67] (L2 := [(67, .bool true)]) (obs := [fun _ => (.bool (decide (p137 < 32)) : Value) = .bool false, fun _ => (.bool (p137 == 127) : Value) = .bool false, fun _ => (.bool (decide (p137 ≥ 4352)) : Value) = .bool false, fun _ => (.bool (decide (p137 ≥ 11904)) : Value) = .bool true, fun _ => (.bool (decide (p137 ≤ 42191)) : Value) = .bool false, fun _ => (.bool (decide (p137 ≥ 44032)) : Value) = .bool false, fun _ => (.bool (decide (p137 ≥ 63744)) : Value) = .bool true, fun _ => (.bool (decide (p137 ≤ 64255)) : Value) = .bool false, fun _ => (.bool (decide (p137 ≥ 65281)) : Value) = .bool true, fun _ => (.bool (decide (p137 ≤ 65376)) : Value) = .bool true]) (by kernel_rfl) ?_ ?_
                        · intro w hs; exact ⟨congrArg Value.bool (decide_eq_false h241), congrArg Value.bool (beq_eq_false_iff_ne.2 h242), congrArg Value.bool (decide_eq_false h243), congrArg Value.bool (decide_eq_true h307), congrArg Value.bool (decide_eq_false h308), congrArg Value.bool (decide_eq_false h309), congrArg Value.bool (decide_eq_true h325), congrArg Value.bool (decide_eq_false h326), congrArg Value.bool (decide_eq_true h327), congrArg Value.bool (decide_eq_true h328)⟩
                        refine at_thn ?_
                        refine at_cond_t rfl (rfl) ?_
                        refine at_seq ?_
                        refine at_reg [] [2] (L2 := [(2, .int .i64 2)]) (obs := []) (by kernel_rfl) ?_ ?_
                        · intro w hs; exact trivial
                        refine at_thn ?_
                        refine at_ret ?_
                        refine at_then_ret ?_
                        obtain rfl := Option.some.inj H
                        refine at_done (vs := [.int .i64 2]) (obs := []) (.inl rfl) [.tmp 2] [] rfl (by kernel_rfl) (fun w hs => trivial) (fun w hs => ⟨_, _, [], rfl, ⟨rfl, rfl⟩, hle, hs⟩)
                      · rw [if_neg h328] at H
                        by_cases h329 : p137 ≥ 127744
                        · rw [if_pos h329] at H
                          refine at_reg [(2, .bool false), (6, .bool false), (9, .bool false), (17, .bool true), (22, .bool false), (25, .bool false), (33, .bool true), (38, .bool false), (41, .bool true), (46, .bool false), (49, .bool true)] [67] (L2 := [(67, .bool (decide (p137 ≤ 129791)))]) (obs := [fun _ => (.bool (decide (p137 < 32)) : Value) = .bool false, fun _ => (.bool (p137 == 127) : Value) = .bool false, fun _ => (.bool (decide (p137 ≥ 4352)) : Value) = .bool false, fun _ => (.bool (decide (p137 ≥ 11904)) : Value) = .bool true, fun _ => (.bool (decide (p137 ≤ 42191)) : Value) = .bool false, fun _ => (.bool (decide (p137 ≥ 44032)) : Value) = .bool false, fun _ => (.bool (decide (p137 ≥ 63744)) : Value) = .bool true, fun _ => (.bool (decide (p137 ≤ 64255)) : Value) = .bool false, fun _ => (.bool (decide (p137 ≥ 65281)) : Value) = .bool true, fun _ => (.bool (decide (p137 ≤ 65376)) : Value) = .bool false, fun _ => (.bool (decide (p137 ≥ 127744)) : Value) = .bool true]) (by kernel_rfl) ?_ ?_
                          · intro w hs; exact ⟨congrArg Value.bool (decide_eq_false h241), congrArg Value.bool (beq_eq_false_iff_ne.2 h242), congrArg Value.bool (decide_eq_false h243), congrArg Value.bool (decide_eq_true h307), congrArg Value.bool (decide_eq_false h308), congrArg Value.bool (decide_eq_false h309), congrArg Value.bool (decide_eq_true h325), congrArg Value.bool (decide_eq_false h326), congrArg Value.bool (decide_eq_true h327), congrArg Value.bool (decide_eq_false h328), congrArg Value.bool (decide_eq_true h329)⟩
                          refine at_thn ?_
                          by_cases h330 : p137 ≤ 129791
                          · rw [if_pos h330] at H
                            refine at_cond_t rfl (decide_eq_true h330) ?_
                            refine at_seq ?_
                            refine at_reg [] [2] (L2 := [(2, .int .i64 2)]) (obs := []) (by kernel_rfl) ?_ ?_
                            · intro w hs; exact trivial
                            refine at_thn ?_
                            refine at_ret ?_
                            refine at_then_ret ?_
                            obtain rfl := Option.some.inj H
                            refine at_done (vs := [.int .i64 2]) (obs := []) (.inl rfl) [.tmp 2] [] rfl (by kernel_rfl) (fun w hs => trivial) (fun w hs => ⟨_, _, [], rfl, ⟨rfl, rfl⟩, hle, hs⟩)
                          · rw [if_neg h330] at H
                            refine at_cond_f rfl (decide_eq_false h330) ?_
                            refine at_skip ?_
                            refine at_thn ?_
                            refine at_seq ?_
                            refine at_reg [] [2] (L2 := [(2, .int .i64 1)]) (obs := []) (by kernel_rfl) ?_ ?_
                            · intro w hs; exact trivial
                            refine at_thn ?_
                            refine at_ret ?_
                            obtain rfl := Option.some.inj H
                            refine at_done (vs := [.int .i64 1]) (obs := []) (.inl rfl) [.tmp 2] [] rfl (by kernel_rfl) (fun w hs => trivial) (fun w hs => ⟨_, _, [], rfl, ⟨rfl, rfl⟩, hle, hs⟩)
                        · rw [if_neg h329] at H
                          refine at_reg [(2, .bool false), (6, .bool false), (9, .bool false), (17, .bool true), (22, .bool false), (25, .bool false), (33, .bool true), (38, .bool false), (41, .bool true), (46, .bool false), (49, .bool false)] [67] (L2 := [(67, .bool false)]) (obs := [fun _ => (.bool (decide (p137 < 32)) : Value) = .bool false, fun _ => (.bool (p137 == 127) : Value) = .bool false, fun _ => (.bool (decide (p137 ≥ 4352)) : Value) = .bool false, fun _ => (.bool (decide (p137 ≥ 11904)) : Value) = .bool true, fun _ => (.bool (decide (p137 ≤ 42191)) : Value) = .bool false, fun _ => (.bool (decide (p137 ≥ 44032)) : Value) = .bool false, fun _ => (.bool (decide (p137 ≥ 63744)) : Value) = .bool true, fun _ => (.bool (decide (p137 ≤ 64255)) : Value) = .bool false, fun _ => (.bool (decide (p137 ≥ 65281)) : Value) = .bool true, fun _ => (.bool (decide (p137 ≤ 65376)) : Value) = .bool false, fun _ => (.bool (decide (p137 ≥ 127744)) : Value) = .bool false]) (by kernel_rfl) ?_ ?_
                          · intro w hs; exact ⟨congrArg Value.bool (decide_eq_false h241), congrArg Value.bool (beq_eq_false_iff_ne.2 h242), congrArg Value.bool (decide_eq_false h243), congrArg Value.bool (decide_eq_true h307), congrArg Value.bool (decide_eq_false h308), congrArg Value.bool (decide_eq_false h309), congrArg Value.bool (decide_eq_true h325), congrArg Value.bool (decide_eq_false h326), congrArg Value.bool (decide_eq_true h327), congrArg Value.bool (decide_eq_false h328), congrArg Value.bool (decide_eq_false h329)⟩
                          refine at_thn ?_
                          refine at_cond_f rfl (rfl) ?_
                          refine at_skip ?_
                          refine at_thn ?_
                          refine at_seq ?_
                          refine at_reg [] [2] (L2 := [(2, .int .i64 1)]) (obs := []) (by kernel_rfl) ?_ ?_
                          · intro w hs; exact trivial
                          refine at_thn ?_
                          refine at_ret ?_
                          obtain rfl := Option.some.inj H
                          refine at_done (vs := [.int .i64 1]) (obs := []) (.inl rfl) [.tmp 2] [] rfl (by kernel_rfl) (fun w hs => trivial) (fun w hs => ⟨_, _, [], rfl, ⟨rfl, rfl⟩, hle, hs⟩)
                    · rw [if_neg h327] at H
                      by_cases h331 : p137 ≥ 127744
                      · rw [if_pos h331] at H
                        refine at_reg [(2, .bool false), (6, .bool false), (9, .bool false), (17, .bool true), (22, .bool false), (25, .bool false), (33, .bool true), (38, .bool false), (41, .bool false), (49, .bool true)] [67] (L2 := [(67, .bool (decide (p137 ≤ 129791)))]) (obs := [fun _ => (.bool (decide (p137 < 32)) : Value) = .bool false, fun _ => (.bool (p137 == 127) : Value) = .bool false, fun _ => (.bool (decide (p137 ≥ 4352)) : Value) = .bool false, fun _ => (.bool (decide (p137 ≥ 11904)) : Value) = .bool true, fun _ => (.bool (decide (p137 ≤ 42191)) : Value) = .bool false, fun _ => (.bool (decide (p137 ≥ 44032)) : Value) = .bool false, fun _ => (.bool (decide (p137 ≥ 63744)) : Value) = .bool true, fun _ => (.bool (decide (p137 ≤ 64255)) : Value) = .bool false, fun _ => (.bool (decide (p137 ≥ 65281)) : Value) = .bool false, fun _ => (.bool (decide (p137 ≥ 127744)) : Value) = .bool true]) (by kernel_rfl) ?_ ?_
                        · intro w hs; exact ⟨congrArg Value.bool (decide_eq_false h241), congrArg Value.bool (beq_eq_false_iff_ne.2 h242), congrArg Value.bool (decide_eq_false h243), congrArg Value.bool (decide_eq_true h307), congrArg Value.bool (decide_eq_false h308), congrArg Value.bool (decide_eq_false h309), congrArg Value.bool (decide_eq_true h325), congrArg Value.bool (decide_eq_false h326), congrArg Value.bool (decide_eq_false h327), congrArg Value.bool (decide_eq_true h331)⟩
                        refine at_thn ?_
                        by_cases h332 : p137 ≤ 129791
                        · rw [if_pos h332] at H
                          refine at_cond_t rfl (decide_eq_true h332) ?_
                          refine at_seq ?_
                          refine at_reg [] [2] (L2 := [(2, .int .i64 2)]) (obs := []) (by kernel_rfl) ?_ ?_
                          · intro w hs; exact trivial
                          refine at_thn ?_
                          refine at_ret ?_
                          refine at_then_ret ?_
                          obtain rfl := Option.some.inj H
                          refine at_done (vs := [.int .i64 2]) (obs := []) (.inl rfl) [.tmp 2] [] rfl (by kernel_rfl) (fun w hs => trivial) (fun w hs => ⟨_, _, [], rfl, ⟨rfl, rfl⟩, hle, hs⟩)
                        · rw [if_neg h332] at H
                          refine at_cond_f rfl (decide_eq_false h332) ?_
                          refine at_skip ?_
                          refine at_thn ?_
                          refine at_seq ?_
                          refine at_reg [] [2] (L2 := [(2, .int .i64 1)]) (obs := []) (by kernel_rfl) ?_ ?_
                          · intro w hs; exact trivial
                          refine at_thn ?_
                          refine at_ret ?_
                          obtain rfl := Option.some.inj H
                          refine at_done (vs := [.int .i64 1]) (obs := []) (.inl rfl) [.tmp 2] [] rfl (by kernel_rfl) (fun w hs => trivial) (fun w hs => ⟨_, _, [], rfl, ⟨rfl, rfl⟩, hle, hs⟩)
                      · rw [if_neg h331] at H
                        refine at_reg [(2, .bool false), (6, .bool false), (9, .bool false), (17, .bool true), (22, .bool false), (25, .bool false), (33, .bool true), (38, .bool false), (41, .bool false), (49, .bool false)] [67] (L2 := [(67, .bool false)]) (obs := [fun _ => (.bool (decide (p137 < 32)) : Value) = .bool false, fun _ => (.bool (p137 == 127) : Value) = .bool false, fun _ => (.bool (decide (p137 ≥ 4352)) : Value) = .bool false, fun _ => (.bool (decide (p137 ≥ 11904)) : Value) = .bool true, fun _ => (.bool (decide (p137 ≤ 42191)) : Value) = .bool false, fun _ => (.bool (decide (p137 ≥ 44032)) : Value) = .bool false, fun _ => (.bool (decide (p137 ≥ 63744)) : Value) = .bool true, fun _ => (.bool (decide (p137 ≤ 64255)) : Value) = .bool false, fun _ => (.bool (decide (p137 ≥ 65281)) : Value) = .bool false, fun _ => (.bool (decide (p137 ≥ 127744)) : Value) = .bool false]) (by kernel_rfl) ?_ ?_
                        · intro w hs; exact ⟨congrArg Value.bool (decide_eq_false h241), congrArg Value.bool (beq_eq_false_iff_ne.2 h242), congrArg Value.bool (decide_eq_false h243), congrArg Value.bool (decide_eq_true h307), congrArg Value.bool (decide_eq_false h308), congrArg Value.bool (decide_eq_false h309), congrArg Value.bool (decide_eq_true h325), congrArg Value.bool (decide_eq_false h326), congrArg Value.bool (decide_eq_false h327), congrArg Value.bool (decide_eq_false h331)⟩
                        refine at_thn ?_
                        refine at_cond_f rfl (rfl) ?_
                        refine at_skip ?_
                        refine at_thn ?_
                        refine at_seq ?_
                        refine at_reg [] [2] (L2 := [(2, .int .i64 1)]) (obs := []) (by kernel_rfl) ?_ ?_
                        · intro w hs; exact trivial
                        refine at_thn ?_
                        refine at_ret ?_
                        obtain rfl := Option.some.inj H
                        refine at_done (vs := [.int .i64 1]) (obs := []) (.inl rfl) [.tmp 2] [] rfl (by kernel_rfl) (fun w hs => trivial) (fun w hs => ⟨_, _, [], rfl, ⟨rfl, rfl⟩, hle, hs⟩)
                · rw [if_neg h325] at H
                  by_cases h333 : p137 ≥ 65281
                  · rw [if_pos h333] at H
                    by_cases h334 : p137 ≤ 65376
                    · rw [if_pos h334] at H
                      refine at_reg [(2, .bool false), (6, .bool false), (9, .bool false), (17, .bool true), (22, .bool false), (25, .bool false), (33, .bool false), (41, .bool true), (46, .bool true)] [67] (L2 := [(67, .bool true)]) (obs := [fun _ => (.bool (decide (p137 < 32)) : Value) = .bool false, fun _ => (.bool (p137 == 127) : Value) = .bool false, fun _ => (.bool (decide (p137 ≥ 4352)) : Value) = .bool false, fun _ => (.bool (decide (p137 ≥ 11904)) : Value) = .bool true, fun _ => (.bool (decide (p137 ≤ 42191)) : Value) = .bool false, fun _ => (.bool (decide (p137 ≥ 44032)) : Value) = .bool false, fun _ => (.bool (decide (p137 ≥ 63744)) : Value) = .bool false, fun _ => (.bool (decide (p137 ≥ 65281)) : Value) = .bool true, fun _ => (.bool (decide (p137 ≤ 65376)) : Value) = .bool true]) (by kernel_rfl) ?_ ?_
                      · intro w hs; exact ⟨congrArg Value.bool (decide_eq_false h241), congrArg Value.bool (beq_eq_false_iff_ne.2 h242), congrArg Value.bool (decide_eq_false h243), congrArg Value.bool (decide_eq_true h307), congrArg Value.bool (decide_eq_false h308), congrArg Value.bool (decide_eq_false h309), congrArg Value.bool (decide_eq_false h325), congrArg Value.bool (decide_eq_true h333), congrArg Value.bool (decide_eq_true h334)⟩
                      refine at_thn ?_
                      refine at_cond_t rfl (rfl) ?_
                      refine at_seq ?_
                      refine at_reg [] [2] (L2 := [(2, .int .i64 2)]) (obs := []) (by kernel_rfl) ?_ ?_
                      · intro w hs; exact trivial
                      refine at_thn ?_
                      refine at_ret ?_
                      refine at_then_ret ?_
                      obtain rfl := Option.some.inj H
                      refine at_done (vs := [.int .i64 2]) (obs := []) (.inl rfl) [.tmp 2] [] rfl (by kernel_rfl) (fun w hs => trivial) (fun w hs => ⟨_, _, [], rfl, ⟨rfl, rfl⟩, hle, hs⟩)
                    · rw [if_neg h334] at H
                      by_cases h335 : p137 ≥ 127744
                      · rw [if_pos h335] at H
                        refine at_reg [(2, .bool false), (6, .bool false), (9, .bool false), (17, .bool true), (22, .bool false), (25, .bool false), (33, .bool false), (41, .bool true), (46, .bool false), (49, .bool true)] [67] (L2 := [(67, .bool (decide (p137 ≤ 129791)))]) (obs := [fun _ => (.bool (decide (p137 < 32)) : Value) = .bool false, fun _ => (.bool (p137 == 127) : Value) = .bool false, fun _ => (.bool (decide (p137 ≥ 4352)) : Value) = .bool false, fun _ => (.bool (decide (p137 ≥ 11904)) : Value) = .bool true, fun _ => (.bool (decide (p137 ≤ 42191)) : Value) = .bool false, fun _ => (.bool (decide (p137 ≥ 44032)) : Value) = .bool false, fun _ => (.bool (decide (p137 ≥ 63744)) : Value) = .bool false, fun _ => (.bool (decide (p137 ≥ 65281)) : Value) = .bool true, fun _ => (.bool (decide (p137 ≤ 65376)) : Value) = .bool false, fun _ => (.bool (decide (p137 ≥ 127744)) : Value) = .bool true]) (by kernel_rfl) ?_ ?_
                        · intro w hs; exact ⟨congrArg Value.bool (decide_eq_false h241), congrArg Value.bool (beq_eq_false_iff_ne.2 h242), congrArg Value.bool (decide_eq_false h243), congrArg Value.bool (decide_eq_true h307), congrArg Value.bool (decide_eq_false h308), congrArg Value.bool (decide_eq_false h309), congrArg Value.bool (decide_eq_false h325), congrArg Value.bool (decide_eq_true h333), congrArg Value.bool (decide_eq_false h334), congrArg Value.bool (decide_eq_true h335)⟩
                        refine at_thn ?_
                        by_cases h336 : p137 ≤ 129791
                        · rw [if_pos h336] at H
                          refine at_cond_t rfl (decide_eq_true h336) ?_
                          refine at_seq ?_
                          refine at_reg [] [2] (L2 := [(2, .int .i64 2)]) (obs := []) (by kernel_rfl) ?_ ?_
                          · intro w hs; exact trivial
                          refine at_thn ?_
                          refine at_ret ?_
                          refine at_then_ret ?_
                          obtain rfl := Option.some.inj H
                          refine at_done (vs := [.int .i64 2]) (obs := []) (.inl rfl) [.tmp 2] [] rfl (by kernel_rfl) (fun w hs => trivial) (fun w hs => ⟨_, _, [], rfl, ⟨rfl, rfl⟩, hle, hs⟩)
                        · rw [if_neg h336] at H
                          refine at_cond_f rfl (decide_eq_false h336) ?_
                          refine at_skip ?_
                          refine at_thn ?_
                          refine at_seq ?_
                          refine at_reg [] [2] (L2 := [(2, .int .i64 1)]) (obs := []) (by kernel_rfl) ?_ ?_
                          · intro w hs; exact trivial
                          refine at_thn ?_
                          refine at_ret ?_
                          obtain rfl := Option.some.inj H
                          refine at_done (vs := [.int .i64 1]) (obs := []) (.inl rfl) [.tmp 2] [] rfl (by kernel_rfl) (fun w hs => trivial) (fun w hs => ⟨_, _, [], rfl, ⟨rfl, rfl⟩, hle, hs⟩)
                      · rw [if_neg h335] at H
                        refine at_reg [(2, .bool false), (6, .bool false), (9, .bool false), (17, .bool true), (22, .bool false), (25, .bool false), (33, .bool false), (41, .bool true), (46, .bool false), (49, .bool false)] [67] (L2 := [(67, .bool false)]) (obs := [fun _ => (.bool (decide (p137 < 32)) : Value) = .bool false, fun _ => (.bool (p137 == 127) : Value) = .bool false, fun _ => (.bool (decide (p137 ≥ 4352)) : Value) = .bool false, fun _ => (.bool (decide (p137 ≥ 11904)) : Value) = .bool true, fun _ => (.bool (decide (p137 ≤ 42191)) : Value) = .bool false, fun _ => (.bool (decide (p137 ≥ 44032)) : Value) = .bool false, fun _ => (.bool (decide (p137 ≥ 63744)) : Value) = .bool false, fun _ => (.bool (decide (p137 ≥ 65281)) : Value) = .bool true, fun _ => (.bool (decide (p137 ≤ 65376)) : Value) = .bool false, fun _ => (.bool (decide (p137 ≥ 127744)) : Value) = .bool false]) (by kernel_rfl) ?_ ?_
                        · intro w hs; exact ⟨congrArg Value.bool (decide_eq_false h241), congrArg Value.bool (beq_eq_false_iff_ne.2 h242), congrArg Value.bool (decide_eq_false h243), congrArg Value.bool (decide_eq_true h307), congrArg Value.bool (decide_eq_false h308), congrArg Value.bool (decide_eq_false h309), congrArg Value.bool (decide_eq_false h325), congrArg Value.bool (decide_eq_true h333), congrArg Value.bool (decide_eq_false h334), congrArg Value.bool (decide_eq_false h335)⟩
                        refine at_thn ?_
                        refine at_cond_f rfl (rfl) ?_
                        refine at_skip ?_
                        refine at_thn ?_
                        refine at_seq ?_
                        refine at_reg [] [2] (L2 := [(2, .int .i64 1)]) (obs := []) (by kernel_rfl) ?_ ?_
                        · intro w hs; exact trivial
                        refine at_thn ?_
                        refine at_ret ?_
                        obtain rfl := Option.some.inj H
                        refine at_done (vs := [.int .i64 1]) (obs := []) (.inl rfl) [.tmp 2] [] rfl (by kernel_rfl) (fun w hs => trivial) (fun w hs => ⟨_, _, [], rfl, ⟨rfl, rfl⟩, hle, hs⟩)
                  · rw [if_neg h333] at H
                    by_cases h337 : p137 ≥ 127744
                    · rw [if_pos h337] at H
                      refine at_reg [(2, .bool false), (6, .bool false), (9, .bool false), (17, .bool true), (22, .bool false), (25, .bool false), (33, .bool false), (41, .bool false), (49, .bool true)] [67] (L2 := [(67, .bool (decide (p137 ≤ 129791)))]) (obs := [fun _ => (.bool (decide (p137 < 32)) : Value) = .bool false, fun _ => (.bool (p137 == 127) : Value) = .bool false, fun _ => (.bool (decide (p137 ≥ 4352)) : Value) = .bool false, fun _ => (.bool (decide (p137 ≥ 11904)) : Value) = .bool true, fun _ => (.bool (decide (p137 ≤ 42191)) : Value) = .bool false, fun _ => (.bool (decide (p137 ≥ 44032)) : Value) = .bool false, fun _ => (.bool (decide (p137 ≥ 63744)) : Value) = .bool false, fun _ => (.bool (decide (p137 ≥ 65281)) : Value) = .bool false, fun _ => (.bool (decide (p137 ≥ 127744)) : Value) = .bool true]) (by kernel_rfl) ?_ ?_
                      · intro w hs; exact ⟨congrArg Value.bool (decide_eq_false h241), congrArg Value.bool (beq_eq_false_iff_ne.2 h242), congrArg Value.bool (decide_eq_false h243), congrArg Value.bool (decide_eq_true h307), congrArg Value.bool (decide_eq_false h308), congrArg Value.bool (decide_eq_false h309), congrArg Value.bool (decide_eq_false h325), congrArg Value.bool (decide_eq_false h333), congrArg Value.bool (decide_eq_true h337)⟩
                      refine at_thn ?_
                      by_cases h338 : p137 ≤ 129791
                      · rw [if_pos h338] at H
                        refine at_cond_t rfl (decide_eq_true h338) ?_
                        refine at_seq ?_
                        refine at_reg [] [2] (L2 := [(2, .int .i64 2)]) (obs := []) (by kernel_rfl) ?_ ?_
                        · intro w hs; exact trivial
                        refine at_thn ?_
                        refine at_ret ?_
                        refine at_then_ret ?_
                        obtain rfl := Option.some.inj H
                        refine at_done (vs := [.int .i64 2]) (obs := []) (.inl rfl) [.tmp 2] [] rfl (by kernel_rfl) (fun w hs => trivial) (fun w hs => ⟨_, _, [], rfl, ⟨rfl, rfl⟩, hle, hs⟩)
                      · rw [if_neg h338] at H
                        refine at_cond_f rfl (decide_eq_false h338) ?_
                        refine at_skip ?_
                        refine at_thn ?_
                        refine at_seq ?_
                        refine at_reg [] [2] (L2 := [(2, .int .i64 1)]) (obs := []) (by kernel_rfl) ?_ ?_
                        · intro w hs; exact trivial
                        refine at_thn ?_
                        refine at_ret ?_
                        obtain rfl := Option.some.inj H
                        refine at_done (vs := [.int .i64 1]) (obs := []) (.inl rfl) [.tmp 2] [] rfl (by kernel_rfl) (fun w hs => trivial) (fun w hs => ⟨_, _, [], rfl, ⟨rfl, rfl⟩, hle, hs⟩)
                    · rw [if_neg h337] at H
                      refine at_reg [(2, .bool false), (6, .bool false), (9, .bool false), (17, .bool true), (22, .bool false), (25, .bool false), (33, .bool false), (41, .bool false), (49, .bool false)] [67] (L2 := [(67, .bool false)]) (obs := [fun _ => (.bool (decide (p137 < 32)) : Value) = .bool false, fun _ => (.bool (p137 == 127) : Value) = .bool false, fun _ => (.bool (decide (p137 ≥ 4352)) : Value) = .bool false, fun _ => (.bool (decide (p137 ≥ 11904)) : Value) = .bool true, fun _ => (.bool (decide (p137 ≤ 42191)) : Value) = .bool false, fun _ => (.bool (decide (p137 ≥ 44032)) : Value) = .bool false, fun _ => (.bool (decide (p137 ≥ 63744)) : Value) = .bool false, fun _ => (.bool (decide (p137 ≥ 65281)) : Value) = .bool false, fun _ => (.bool (decide (p137 ≥ 127744)) : Value) = .bool false]) (by kernel_rfl) ?_ ?_
                      · intro w hs; exact ⟨congrArg Value.bool (decide_eq_false h241), congrArg Value.bool (beq_eq_false_iff_ne.2 h242), congrArg Value.bool (decide_eq_false h243), congrArg Value.bool (decide_eq_true h307), congrArg Value.bool (decide_eq_false h308), congrArg Value.bool (decide_eq_false h309), congrArg Value.bool (decide_eq_false h325), congrArg Value.bool (decide_eq_false h333), congrArg Value.bool (decide_eq_false h337)⟩
                      refine at_thn ?_
                      refine at_cond_f rfl (rfl) ?_
                      refine at_skip ?_
                      refine at_thn ?_
                      refine at_seq ?_
                      refine at_reg [] [2] (L2 := [(2, .int .i64 1)]) (obs := []) (by kernel_rfl) ?_ ?_
                      · intro w hs; exact trivial
                      refine at_thn ?_
                      refine at_ret ?_
                      obtain rfl := Option.some.inj H
                      refine at_done (vs := [.int .i64 1]) (obs := []) (.inl rfl) [.tmp 2] [] rfl (by kernel_rfl) (fun w hs => trivial) (fun w hs => ⟨_, _, [], rfl, ⟨rfl, rfl⟩, hle, hs⟩)
          · rw [if_neg h307] at H
            by_cases h339 : p137 ≥ 44032
            · rw [if_pos h339] at H
              by_cases h340 : p137 ≤ 55203
              · rw [if_pos h340] at H
                refine at_reg [(2, .bool false), (6, .bool false), (9, .bool false), (17, .bool false), (25, .bool true), (30, .bool true)] [67] (L2 := [(67, .bool true)]) (obs := [fun _ => (.bool (decide (p137 < 32)) : Value) = .bool false, fun _ => (.bool (p137 == 127) : Value) = .bool false, fun _ => (.bool (decide (p137 ≥ 4352)) : Value) = .bool false, fun _ => (.bool (decide (p137 ≥ 11904)) : Value) = .bool false, fun _ => (.bool (decide (p137 ≥ 44032)) : Value) = .bool true, fun _ => (.bool (decide (p137 ≤ 55203)) : Value) = .bool true]) (by kernel_rfl) ?_ ?_
                · intro w hs; exact ⟨congrArg Value.bool (decide_eq_false h241), congrArg Value.bool (beq_eq_false_iff_ne.2 h242), congrArg Value.bool (decide_eq_false h243), congrArg Value.bool (decide_eq_false h307), congrArg Value.bool (decide_eq_true h339), congrArg Value.bool (decide_eq_true h340)⟩
                refine at_thn ?_
                refine at_cond_t rfl (rfl) ?_
                refine at_seq ?_
                refine at_reg [] [2] (L2 := [(2, .int .i64 2)]) (obs := []) (by kernel_rfl) ?_ ?_
                · intro w hs; exact trivial
                refine at_thn ?_
                refine at_ret ?_
                refine at_then_ret ?_
                obtain rfl := Option.some.inj H
                refine at_done (vs := [.int .i64 2]) (obs := []) (.inl rfl) [.tmp 2] [] rfl (by kernel_rfl) (fun w hs => trivial) (fun w hs => ⟨_, _, [], rfl, ⟨rfl, rfl⟩, hle, hs⟩)
              · rw [if_neg h340] at H
                by_cases h341 : p137 ≥ 63744
                · rw [if_pos h341] at H
                  by_cases h342 : p137 ≤ 64255
                  · rw [if_pos h342] at H
                    refine at_reg [(2, .bool false), (6, .bool false), (9, .bool false), (17, .bool false), (25, .bool true), (30, .bool false), (33, .bool true), (38, .bool true)] [67] (L2 := [(67, .bool true)]) (obs := [fun _ => (.bool (decide (p137 < 32)) : Value) = .bool false, fun _ => (.bool (p137 == 127) : Value) = .bool false, fun _ => (.bool (decide (p137 ≥ 4352)) : Value) = .bool false, fun _ => (.bool (decide (p137 ≥ 11904)) : Value) = .bool false, fun _ => (.bool (decide (p137 ≥ 44032)) : Value) = .bool true, fun _ => (.bool (decide (p137 ≤ 55203)) : Value) = .bool false, fun _ => (.bool (decide (p137 ≥ 63744)) : Value) = .bool true, fun _ => (.bool (decide (p137 ≤ 64255)) : Value) = .bool true]) (by kernel_rfl) ?_ ?_
                    · intro w hs; exact ⟨congrArg Value.bool (decide_eq_false h241), congrArg Value.bool (beq_eq_false_iff_ne.2 h242), congrArg Value.bool (decide_eq_false h243), congrArg Value.bool (decide_eq_false h307), congrArg Value.bool (decide_eq_true h339), congrArg Value.bool (decide_eq_false h340), congrArg Value.bool (decide_eq_true h341), congrArg Value.bool (decide_eq_true h342)⟩
                    refine at_thn ?_
                    refine at_cond_t rfl (rfl) ?_
                    refine at_seq ?_
                    refine at_reg [] [2] (L2 := [(2, .int .i64 2)]) (obs := []) (by kernel_rfl) ?_ ?_
                    · intro w hs; exact trivial
                    refine at_thn ?_
                    refine at_ret ?_
                    refine at_then_ret ?_
                    obtain rfl := Option.some.inj H
                    refine at_done (vs := [.int .i64 2]) (obs := []) (.inl rfl) [.tmp 2] [] rfl (by kernel_rfl) (fun w hs => trivial) (fun w hs => ⟨_, _, [], rfl, ⟨rfl, rfl⟩, hle, hs⟩)
                  · rw [if_neg h342] at H
                    by_cases h343 : p137 ≥ 65281
                    · rw [if_pos h343] at H
                      by_cases h344 : p137 ≤ 65376
                      · rw [if_pos h344] at H
                        refine at_reg [(2, .bool false), (6, .bool false), (9, .bool false), (17, .bool false), (25, .bool true), (30, .bool false), (33, .bool true), (38, .bool false), (41, .bool true), (46, .bool true)] [67] (L2 := [(67, .bool true)]) (obs := [fun _ => (.bool (decide (p137 < 32)) : Value) = .bool false, fun _ => (.bool (p137 == 127) : Value) = .bool false, fun _ => (.bool (decide (p137 ≥ 4352)) : Value) = .bool false, fun _ => (.bool (decide (p137 ≥ 11904)) : Value) = .bool false, fun _ => (.bool (decide (p137 ≥ 44032)) : Value) = .bool true, fun _ => (.bool (decide (p137 ≤ 55203)) : Value) = .bool false, fun _ => (.bool (decide (p137 ≥ 63744)) : Value) = .bool true, fun _ => (.bool (decide (p137 ≤ 64255)) : Value) = .bool false, fun _ => (.bool (decide (p137 ≥ 65281)) : Value) = .bool true, fun _ => (.bool (decide (p137 ≤ 65376)) : Value) = .bool true]) (by kernel_rfl) ?_ ?_
                        · intro w hs; exact ⟨congrArg Value.bool (decide_eq_false h241), congrArg Value.bool (beq_eq_false_iff_ne.2 h242), congrArg Value.bool (decide_eq_false h243), congrArg Value.bool (decide_eq_false h307), congrArg Value.bool (decide_eq_true h339), congrArg Value.bool (decide_eq_false h340), congrArg Value.bool (decide_eq_true h341), congrArg Value.bool (decide_eq_false h342), congrArg Value.bool (decide_eq_true h343), congrArg Value.bool (decide_eq_true h344)⟩
                        refine at_thn ?_
                        refine at_cond_t rfl (rfl) ?_
                        refine at_seq ?_
                        refine at_reg [] [2] (L2 := [(2, .int .i64 2)]) (obs := []) (by kernel_rfl) ?_ ?_
                        · intro w hs; exact trivial
                        refine at_thn ?_
                        refine at_ret ?_
                        refine at_then_ret ?_
                        obtain rfl := Option.some.inj H
                        refine at_done (vs := [.int .i64 2]) (obs := []) (.inl rfl) [.tmp 2] [] rfl (by kernel_rfl) (fun w hs => trivial) (fun w hs => ⟨_, _, [], rfl, ⟨rfl, rfl⟩, hle, hs⟩)
                      · rw [if_neg h344] at H
                        by_cases h345 : p137 ≥ 127744
                        · rw [if_pos h345] at H
                          refine at_reg [(2, .bool false), (6, .bool false), (9, .bool false), (17, .bool false), (25, .bool true), (30, .bool false), (33, .bool true), (38, .bool false), (41, .bool true), (46, .bool false), (49, .bool true)] [67] (L2 := [(67, .bool (decide (p137 ≤ 129791)))]) (obs := [fun _ => (.bool (decide (p137 < 32)) : Value) = .bool false, fun _ => (.bool (p137 == 127) : Value) = .bool false, fun _ => (.bool (decide (p137 ≥ 4352)) : Value) = .bool false, fun _ => (.bool (decide (p137 ≥ 11904)) : Value) = .bool false, fun _ => (.bool (decide (p137 ≥ 44032)) : Value) = .bool true, fun _ => (.bool (decide (p137 ≤ 55203)) : Value) = .bool false, fun _ => (.bool (decide (p137 ≥ 63744)) : Value) = .bool true, fun _ => (.bool (decide (p137 ≤ 64255)) : Value) = .bool false, fun _ => (.bool (decide (p137 ≥ 65281)) : Value) = .bool true, fun _ => (.bool (decide (p137 ≤ 65376)) : Value) = .bool false, fun _ => (.bool (decide (p137 ≥ 127744)) : Value) = .bool true]) (by kernel_rfl) ?_ ?_
                          · intro w hs; exact ⟨congrArg Value.bool (decide_eq_false h241), congrArg Value.bool (beq_eq_false_iff_ne.2 h242), congrArg Value.bool (decide_eq_false h243), congrArg Value.bool (decide_eq_false h307), congrArg Value.bool (decide_eq_true h339), congrArg Value.bool (decide_eq_false h340), congrArg Value.bool (decide_eq_true h341), congrArg Value.bool (decide_eq_false h342), congrArg Value.bool (decide_eq_true h343), congrArg Value.bool (decide_eq_false h344), congrArg Value.bool (decide_eq_true h345)⟩
                          refine at_thn ?_
                          by_cases h346 : p137 ≤ 129791
                          · rw [if_pos h346] at H
                            refine at_cond_t rfl (decide_eq_true h346) ?_
                            refine at_seq ?_
                            refine at_reg [] [2] (L2 := [(2, .int .i64 2)]) (obs := []) (by kernel_rfl) ?_ ?_
                            · intro w hs; exact trivial
                            refine at_thn ?_
                            refine at_ret ?_
                            refine at_then_ret ?_
                            obtain rfl := Option.some.inj H
                            refine at_done (vs := [.int .i64 2]) (obs := []) (.inl rfl) [.tmp 2] [] rfl (by kernel_rfl) (fun w hs => trivial) (fun w hs => ⟨_, _, [], rfl, ⟨rfl, rfl⟩, hle, hs⟩)
                          · rw [if_neg h346] at H
                            refine at_cond_f rfl (decide_eq_false h346) ?_
                            refine at_skip ?_
                            refine at_thn ?_
                            refine at_seq ?_
                            refine at_reg [] [2] (L2 := [(2, .int .i64 1)]) (obs := []) (by kernel_rfl) ?_ ?_
                            · intro w hs; exact trivial
                            refine at_thn ?_
                            refine at_ret ?_
                            obtain rfl := Option.some.inj H
                            refine at_done (vs := [.int .i64 1]) (obs := []) (.inl rfl) [.tmp 2] [] rfl (by kernel_rfl) (fun w hs => trivial) (fun w hs => ⟨_, _, [], rfl, ⟨rfl, rfl⟩, hle, hs⟩)
                        · rw [if_neg h345] at H
                          refine at_reg [(2, .bool false), (6, .bool false), (9, .bool false), (17, .bool false), (25, .bool true), (30, .bool false), (33, .bool true), (38, .bool false), (41, .bool true), (46, .bool false), (49, .bool false)] [67] (L2 := [(67, .bool false)]) (obs := [fun _ => (.bool (decide (p137 < 32)) : Value) = .bool false, fun _ => (.bool (p137 == 127) : Value) = .bool false, fun _ => (.bool (decide (p137 ≥ 4352)) : Value) = .bool false, fun _ => (.bool (decide (p137 ≥ 11904)) : Value) = .bool false, fun _ => (.bool (decide (p137 ≥ 44032)) : Value) = .bool true, fun _ => (.bool (decide (p137 ≤ 55203)) : Value) = .bool false, fun _ => (.bool (decide (p137 ≥ 63744)) : Value) = .bool true, fun _ => (.bool (decide (p137 ≤ 64255)) : Value) = .bool false, fun _ => (.bool (decide (p137 ≥ 65281)) : Value) = .bool true, fun _ => (.bool (decide (p137 ≤ 65376)) : Value) = .bool false, fun _ => (.bool (decide (p137 ≥ 127744)) : Value) = .bool false]) (by kernel_rfl) ?_ ?_
                          · intro w hs; exact ⟨congrArg Value.bool (decide_eq_false h241), congrArg Value.bool (beq_eq_false_iff_ne.2 h242), congrArg Value.bool (decide_eq_false h243), congrArg Value.bool (decide_eq_false h307), congrArg Value.bool (decide_eq_true h339), congrArg Value.bool (decide_eq_false h340), congrArg Value.bool (decide_eq_true h341), congrArg Value.bool (decide_eq_false h342), congrArg Value.bool (decide_eq_true h343), congrArg Value.bool (decide_eq_false h344), congrArg Value.bool (decide_eq_false h345)⟩
                          refine at_thn ?_
                          refine at_cond_f rfl (rfl) ?_
                          refine at_skip ?_
                          refine at_thn ?_
                          refine at_seq ?_
                          refine at_reg [] [2] (L2 := [(2, .int .i64 1)]) (obs := []) (by kernel_rfl) ?_ ?_
                          · intro w hs; exact trivial
                          refine at_thn ?_
                          refine at_ret ?_
                          obtain rfl := Option.some.inj H
                          refine at_done (vs := [.int .i64 1]) (obs := []) (.inl rfl) [.tmp 2] [] rfl (by kernel_rfl) (fun w hs => trivial) (fun w hs => ⟨_, _, [], rfl, ⟨rfl, rfl⟩, hle, hs⟩)
                    · rw [if_neg h343] at H
                      by_cases h347 : p137 ≥ 127744
                      · rw [if_pos h347] at H
                        refine at_reg [(2, .bool false), (6, .bool false), (9, .bool false), (17, .bool false), (25, .bool true), (30, .bool false), (33, .bool true), (38, .bool false), (41, .bool false), (49, .bool true)] [67] (L2 := [(67, .bool (decide (p137 ≤ 129791)))]) (obs := [fun _ => (.bool (decide (p137 < 32)) : Value) = .bool false, fun _ => (.bool (p137 == 127) : Value) = .bool false, fun _ => (.bool (decide (p137 ≥ 4352)) : Value) = .bool false, fun _ => (.bool (decide (p137 ≥ 11904)) : Value) = .bool false, fun _ => (.bool (decide (p137 ≥ 44032)) : Value) = .bool true, fun _ => (.bool (decide (p137 ≤ 55203)) : Value) = .bool false, fun _ => (.bool (decide (p137 ≥ 63744)) : Value) = .bool true, fun _ => (.bool (decide (p137 ≤ 64255)) : Value) = .bool false, fun _ => (.bool (decide (p137 ≥ 65281)) : Value) = .bool false, fun _ => (.bool (decide (p137 ≥ 127744)) : Value) = .bool true]) (by kernel_rfl) ?_ ?_
                        · intro w hs; exact ⟨congrArg Value.bool (decide_eq_false h241), congrArg Value.bool (beq_eq_false_iff_ne.2 h242), congrArg Value.bool (decide_eq_false h243), congrArg Value.bool (decide_eq_false h307), congrArg Value.bool (decide_eq_true h339), congrArg Value.bool (decide_eq_false h340), congrArg Value.bool (decide_eq_true h341), congrArg Value.bool (decide_eq_false h342), congrArg Value.bool (decide_eq_false h343), congrArg Value.bool (decide_eq_true h347)⟩
                        refine at_thn ?_
                        by_cases h348 : p137 ≤ 129791
                        · rw [if_pos h348] at H
                          refine at_cond_t rfl (decide_eq_true h348) ?_
                          refine at_seq ?_
                          refine at_reg [] [2] (L2 := [(2, .int .i64 2)]) (obs := []) (by kernel_rfl) ?_ ?_
                          · intro w hs; exact trivial
                          refine at_thn ?_
                          refine at_ret ?_
                          refine at_then_ret ?_
                          obtain rfl := Option.some.inj H
                          refine at_done (vs := [.int .i64 2]) (obs := []) (.inl rfl) [.tmp 2] [] rfl (by kernel_rfl) (fun w hs => trivial) (fun w hs => ⟨_, _, [], rfl, ⟨rfl, rfl⟩, hle, hs⟩)
                        · rw [if_neg h348] at H
                          refine at_cond_f rfl (decide_eq_false h348) ?_
                          refine at_skip ?_
                          refine at_thn ?_
                          refine at_seq ?_
                          refine at_reg [] [2] (L2 := [(2, .int .i64 1)]) (obs := []) (by kernel_rfl) ?_ ?_
                          · intro w hs; exact trivial
                          refine at_thn ?_
                          refine at_ret ?_
                          obtain rfl := Option.some.inj H
                          refine at_done (vs := [.int .i64 1]) (obs := []) (.inl rfl) [.tmp 2] [] rfl (by kernel_rfl) (fun w hs => trivial) (fun w hs => ⟨_, _, [], rfl, ⟨rfl, rfl⟩, hle, hs⟩)
                      · rw [if_neg h347] at H
                        refine at_reg [(2, .bool false), (6, .bool false), (9, .bool false), (17, .bool false), (25, .bool true), (30, .bool false), (33, .bool true), (38, .bool false), (41, .bool false), (49, .bool false)] [67] (L2 := [(67, .bool false)]) (obs := [fun _ => (.bool (decide (p137 < 32)) : Value) = .bool false, fun _ => (.bool (p137 == 127) : Value) = .bool false, fun _ => (.bool (decide (p137 ≥ 4352)) : Value) = .bool false, fun _ => (.bool (decide (p137 ≥ 11904)) : Value) = .bool false, fun _ => (.bool (decide (p137 ≥ 44032)) : Value) = .bool true, fun _ => (.bool (decide (p137 ≤ 55203)) : Value) = .bool false, fun _ => (.bool (decide (p137 ≥ 63744)) : Value) = .bool true, fun _ => (.bool (decide (p137 ≤ 64255)) : Value) = .bool false, fun _ => (.bool (decide (p137 ≥ 65281)) : Value) = .bool false, fun _ => (.bool (decide (p137 ≥ 127744)) : Value) = .bool false]) (by kernel_rfl) ?_ ?_
                        · intro w hs; exact ⟨congrArg Value.bool (decide_eq_false h241), congrArg Value.bool (beq_eq_false_iff_ne.2 h242), congrArg Value.bool (decide_eq_false h243), congrArg Value.bool (decide_eq_false h307), congrArg Value.bool (decide_eq_true h339), congrArg Value.bool (decide_eq_false h340), congrArg Value.bool (decide_eq_true h341), congrArg Value.bool (decide_eq_false h342), congrArg Value.bool (decide_eq_false h343), congrArg Value.bool (decide_eq_false h347)⟩
                        refine at_thn ?_
                        refine at_cond_f rfl (rfl) ?_
                        refine at_skip ?_
                        refine at_thn ?_
                        refine at_seq ?_
                        refine at_reg [] [2] (L2 := [(2, .int .i64 1)]) (obs := []) (by kernel_rfl) ?_ ?_
                        · intro w hs; exact trivial
                        refine at_thn ?_
                        refine at_ret ?_
                        obtain rfl := Option.some.inj H
                        refine at_done (vs := [.int .i64 1]) (obs := []) (.inl rfl) [.tmp 2] [] rfl (by kernel_rfl) (fun w hs => trivial) (fun w hs => ⟨_, _, [], rfl, ⟨rfl, rfl⟩, hle, hs⟩)
                · rw [if_neg h341] at H
                  by_cases h349 : p137 ≥ 65281
                  · rw [if_pos h349] at H
                    by_cases h350 : p137 ≤ 65376
                    · rw [if_pos h350] at H
                      refine at_reg [(2, .bool false), (6, .bool false), (9, .bool false), (17, .bool false), (25, .bool true), (30, .bool false), (33, .bool false), (41, .bool true), (46, .bool true)] [67] (L2 := [(67, .bool true)]) (obs := [fun _ => (.bool (decide (p137 < 32)) : Value) = .bool false, fun _ => (.bool (p137 == 127) : Value) = .bool false, fun _ => (.bool (decide (p137 ≥ 4352)) : Value) = .bool false, fun _ => (.bool (decide (p137 ≥ 11904)) : Value) = .bool false, fun _ => (.bool (decide (p137 ≥ 44032)) : Value) = .bool true, fun _ => (.bool (decide (p137 ≤ 55203)) : Value) = .bool false, fun _ => (.bool (decide (p137 ≥ 63744)) : Value) = .bool false, fun _ => (.bool (decide (p137 ≥ 65281)) : Value) = .bool true, fun _ => (.bool (decide (p137 ≤ 65376)) : Value) = .bool true]) (by kernel_rfl) ?_ ?_
                      · intro w hs; exact ⟨congrArg Value.bool (decide_eq_false h241), congrArg Value.bool (beq_eq_false_iff_ne.2 h242), congrArg Value.bool (decide_eq_false h243), congrArg Value.bool (decide_eq_false h307), congrArg Value.bool (decide_eq_true h339), congrArg Value.bool (decide_eq_false h340), congrArg Value.bool (decide_eq_false h341), congrArg Value.bool (decide_eq_true h349), congrArg Value.bool (decide_eq_true h350)⟩
                      refine at_thn ?_
                      refine at_cond_t rfl (rfl) ?_
                      refine at_seq ?_
                      refine at_reg [] [2] (L2 := [(2, .int .i64 2)]) (obs := []) (by kernel_rfl) ?_ ?_
                      · intro w hs; exact trivial
                      refine at_thn ?_
                      refine at_ret ?_
                      refine at_then_ret ?_
                      obtain rfl := Option.some.inj H
                      refine at_done (vs := [.int .i64 2]) (obs := []) (.inl rfl) [.tmp 2] [] rfl (by kernel_rfl) (fun w hs => trivial) (fun w hs => ⟨_, _, [], rfl, ⟨rfl, rfl⟩, hle, hs⟩)
                    · rw [if_neg h350] at H
                      by_cases h351 : p137 ≥ 127744
                      · rw [if_pos h351] at H
                        refine at_reg [(2, .bool false), (6, .bool false), (9, .bool false), (17, .bool false), (25, .bool true), (30, .bool false), (33, .bool false), (41, .bool true), (46, .bool false), (49, .bool true)] [67] (L2 := [(67, .bool (decide (p137 ≤ 129791)))]) (obs := [fun _ => (.bool (decide (p137 < 32)) : Value) = .bool false, fun _ => (.bool (p137 == 127) : Value) = .bool false, fun _ => (.bool (decide (p137 ≥ 4352)) : Value) = .bool false, fun _ => (.bool (decide (p137 ≥ 11904)) : Value) = .bool false, fun _ => (.bool (decide (p137 ≥ 44032)) : Value) = .bool true, fun _ => (.bool (decide (p137 ≤ 55203)) : Value) = .bool false, fun _ => (.bool (decide (p137 ≥ 63744)) : Value) = .bool false, fun _ => (.bool (decide (p137 ≥ 65281)) : Value) = .bool true, fun _ => (.bool (decide (p137 ≤ 65376)) : Value) = .bool false, fun _ => (.bool (decide (p137 ≥ 127744)) : Value) = .bool true]) (by kernel_rfl) ?_ ?_
                        · intro w hs; exact ⟨congrArg Value.bool (decide_eq_false h241), congrArg Value.bool (beq_eq_false_iff_ne.2 h242), congrArg Value.bool (decide_eq_false h243), congrArg Value.bool (decide_eq_false h307), congrArg Value.bool (decide_eq_true h339), congrArg Value.bool (decide_eq_false h340), congrArg Value.bool (decide_eq_false h341), congrArg Value.bool (decide_eq_true h349), congrArg Value.bool (decide_eq_false h350), congrArg Value.bool (decide_eq_true h351)⟩
                        refine at_thn ?_
                        by_cases h352 : p137 ≤ 129791
                        · rw [if_pos h352] at H
                          refine at_cond_t rfl (decide_eq_true h352) ?_
                          refine at_seq ?_
                          refine at_reg [] [2] (L2 := [(2, .int .i64 2)]) (obs := []) (by kernel_rfl) ?_ ?_
                          · intro w hs; exact trivial
                          refine at_thn ?_
                          refine at_ret ?_
                          refine at_then_ret ?_
                          obtain rfl := Option.some.inj H
                          refine at_done (vs := [.int .i64 2]) (obs := []) (.inl rfl) [.tmp 2] [] rfl (by kernel_rfl) (fun w hs => trivial) (fun w hs => ⟨_, _, [], rfl, ⟨rfl, rfl⟩, hle, hs⟩)
                        · rw [if_neg h352] at H
                          refine at_cond_f rfl (decide_eq_false h352) ?_
                          refine at_skip ?_
                          refine at_thn ?_
                          refine at_seq ?_
                          refine at_reg [] [2] (L2 := [(2, .int .i64 1)]) (obs := []) (by kernel_rfl) ?_ ?_
                          · intro w hs; exact trivial
                          refine at_thn ?_
                          refine at_ret ?_
                          obtain rfl := Option.some.inj H
                          refine at_done (vs := [.int .i64 1]) (obs := []) (.inl rfl) [.tmp 2] [] rfl (by kernel_rfl) (fun w hs => trivial) (fun w hs => ⟨_, _, [], rfl, ⟨rfl, rfl⟩, hle, hs⟩)
                      · rw [if_neg h351] at H
                        refine at_reg [(2, .bool false), (6, .bool false), (9, .bool false), (17, .bool false), (25, .bool true), (30, .bool false), (33, .bool false), (41, .bool true), (46, .bool false), (49, .bool false)] [67] (L2 := [(67, .bool false)]) (obs := [fun _ => (.bool (decide (p137 < 32)) : Value) = .bool false, fun _ => (.bool (p137 == 127) : Value) = .bool false, fun _ => (.bool (decide (p137 ≥ 4352)) : Value) = .bool false, fun _ => (.bool (decide (p137 ≥ 11904)) : Value) = .bool false, fun _ => (.bool (decide (p137 ≥ 44032)) : Value) = .bool true, fun _ => (.bool (decide (p137 ≤ 55203)) : Value) = .bool false, fun _ => (.bool (decide (p137 ≥ 63744)) : Value) = .bool false, fun _ => (.bool (decide (p137 ≥ 65281)) : Value) = .bool true, fun _ => (.bool (decide (p137 ≤ 65376)) : Value) = .bool false, fun _ => (.bool (decide (p137 ≥ 127744)) : Value) = .bool false]) (by kernel_rfl) ?_ ?_
                        · intro w hs; exact ⟨congrArg Value.bool (decide_eq_false h241), congrArg Value.bool (beq_eq_false_iff_ne.2 h242), congrArg Value.bool (decide_eq_false h243), congrArg Value.bool (decide_eq_false h307), congrArg Value.bool (decide_eq_true h339), congrArg Value.bool (decide_eq_false h340), congrArg Value.bool (decide_eq_false h341), congrArg Value.bool (decide_eq_true h349), congrArg Value.bool (decide_eq_false h350), congrArg Value.bool (decide_eq_false h351)⟩
                        refine at_thn ?_
                        refine at_cond_f rfl (rfl) ?_
                        refine at_skip ?_
                        refine at_thn ?_
                        refine at_seq ?_
                        refine at_reg [] [2] (L2 := [(2, .int .i64 1)]) (obs := []) (by kernel_rfl) ?_ ?_
                        · intro w hs; exact trivial
                        refine at_thn ?_
                        refine at_ret ?_
                        obtain rfl := Option.some.inj H
                        refine at_done (vs := [.int .i64 1]) (obs := []) (.inl rfl) [.tmp 2] [] rfl (by kernel_rfl) (fun w hs => trivial) (fun w hs => ⟨_, _, [], rfl, ⟨rfl, rfl⟩, hle, hs⟩)
                  · rw [if_neg h349] at H
                    by_cases h353 : p137 ≥ 127744
                    · rw [if_pos h353] at H
                      refine at_reg [(2, .bool false), (6, .bool false), (9, .bool false), (17, .bool false), (25, .bool true), (30, .bool false), (33, .bool false), (41, .bool false), (49, .bool true)] [67] (L2 := [(67, .bool (decide (p137 ≤ 129791)))]) (obs := [fun _ => (.bool (decide (p137 < 32)) : Value) = .bool false, fun _ => (.bool (p137 == 127) : Value) = .bool false, fun _ => (.bool (decide (p137 ≥ 4352)) : Value) = .bool false, fun _ => (.bool (decide (p137 ≥ 11904)) : Value) = .bool false, fun _ => (.bool (decide (p137 ≥ 44032)) : Value) = .bool true, fun _ => (.bool (decide (p137 ≤ 55203)) : Value) = .bool false, fun _ => (.bool (decide (p137 ≥ 63744)) : Value) = .bool false, fun _ => (.bool (decide (p137 ≥ 65281)) : Value) = .bool false, fun _ => (.bool (decide (p137 ≥ 127744)) : Value) = .bool true]) (by kernel_rfl) ?_ ?_
                      · intro w hs; exact ⟨congrArg Value.bool (decide_eq_false h241), congrArg Value.bool (beq_eq_false_iff_ne.2 h242), congrArg Value.bool (decide_eq_false h243), congrArg Value.bool (decide_eq_false h307), congrArg Value.bool (decide_eq_true h339), congrArg Value.bool (decide_eq_false h340), congrArg Value.bool (decide_eq_false h341), congrArg Value.bool (decide_eq_false h349), congrArg Value.bool (decide_eq_true h353)⟩
                      refine at_thn ?_
                      by_cases h354 : p137 ≤ 129791
                      · rw [if_pos h354] at H
                        refine at_cond_t rfl (decide_eq_true h354) ?_
                        refine at_seq ?_
                        refine at_reg [] [2] (L2 := [(2, .int .i64 2)]) (obs := []) (by kernel_rfl) ?_ ?_
                        · intro w hs; exact trivial
                        refine at_thn ?_
                        refine at_ret ?_
                        refine at_then_ret ?_
                        obtain rfl := Option.some.inj H
                        refine at_done (vs := [.int .i64 2]) (obs := []) (.inl rfl) [.tmp 2] [] rfl (by kernel_rfl) (fun w hs => trivial) (fun w hs => ⟨_, _, [], rfl, ⟨rfl, rfl⟩, hle, hs⟩)
                      · rw [if_neg h354] at H
                        refine at_cond_f rfl (decide_eq_false h354) ?_
                        refine at_skip ?_
                        refine at_thn ?_
                        refine at_seq ?_
                        refine at_reg [] [2] (L2 := [(2, .int .i64 1)]) (obs := []) (by kernel_rfl) ?_ ?_
                        · intro w hs; exact trivial
                        refine at_thn ?_
                        refine at_ret ?_
                        obtain rfl := Option.some.inj H
                        refine at_done (vs := [.int .i64 1]) (obs := []) (.inl rfl) [.tmp 2] [] rfl (by kernel_rfl) (fun w hs => trivial) (fun w hs => ⟨_, _, [], rfl, ⟨rfl, rfl⟩, hle, hs⟩)
                    · rw [if_neg h353] at H
                      refine at_reg [(2, .bool false), (6, .bool false), (9, .bool false), (17, .bool false), (25, .bool true), (30, .bool false), (33, .bool false), (41, .bool false), (49, .bool false)] [67] (L2 := [(67, .bool false)]) (obs := [fun _ => (.bool (decide (p137 < 32)) : Value) = .bool false, fun _ => (.bool (p137 == 127) : Value) = .bool false, fun _ => (.bool (decide (p137 ≥ 4352)) : Value) = .bool false, fun _ => (.bool (decide (p137 ≥ 11904)) : Value) = .bool false, fun _ => (.bool (decide (p137 ≥ 44032)) : Value) = .bool true, fun _ => (.bool (decide (p137 ≤ 55203)) : Value) = .bool false, fun _ => (.bool (decide (p137 ≥ 63744)) : Value) = .bool false, fun _ => (.bool (decide (p137 ≥ 65281)) : Value) = .bool false, fun _ => (.bool (decide (p137 ≥ 127744)) : Value) = .bool false]) (by kernel_rfl) ?_ ?_
                      · intro w hs; exact ⟨congrArg Value.bool (decide_eq_false h241), congrArg Value.bool (beq_eq_false_iff_ne.2 h242), congrArg Value.bool (decide_eq_false h243), congrArg Value.bool (decide_eq_false h307), congrArg Value.bool (decide_eq_true h339), congrArg Value.bool (decide_eq_false h340), congrArg Value.bool (decide_eq_false h341), congrArg Value.bool (decide_eq_false h349), congrArg Value.bool (decide_eq_false h353)⟩
                      refine at_thn ?_
                      refine at_cond_f rfl (rfl) ?_
                      refine at_skip ?_
                      refine at_thn ?_
                      refine at_seq ?_
                      refine at_reg [] [2] (L2 := [(2, .int .i64 1)]) (obs := []) (by kernel_rfl) ?_ ?_
                      · intro w hs; exact trivial
                      refine at_thn ?_
                      refine at_ret ?_
                      obtain rfl := Option.some.inj H
                      refine at_done (vs := [.int .i64 1]) (obs := []) (.inl rfl) [.tmp 2] [] rfl (by kernel_rfl) (fun w hs => trivial) (fun w hs => ⟨_, _, [], rfl, ⟨rfl, rfl⟩, hle, hs⟩)
            · rw [if_neg h339] at H
              by_cases h355 : p137 ≥ 63744
              · rw [if_pos h355] at H
                by_cases h356 : p137 ≤ 64255
                · rw [if_pos h356] at H
                  refine at_reg [(2, .bool false), (6, .bool false), (9, .bool false), (17, .bool false), (25, .bool false), (33, .bool true), (38, .bool true)] [67] (L2 := [(67, .bool true)]) (obs := [fun _ => (.bool (decide (p137 < 32)) : Value) = .bool false, fun _ => (.bool (p137 == 127) : Value) = .bool false, fun _ => (.bool (decide (p137 ≥ 4352)) : Value) = .bool false, fun _ => (.bool (decide (p137 ≥ 11904)) : Value) = .bool false, fun _ => (.bool (decide (p137 ≥ 44032)) : Value) = .bool false, fun _ => (.bool (decide (p137 ≥ 63744)) : Value) = .bool true, fun _ => (.bool (decide (p137 ≤ 64255)) : Value) = .bool true]) (by kernel_rfl) ?_ ?_
                  · intro w hs; exact ⟨congrArg Value.bool (decide_eq_false h241), congrArg Value.bool (beq_eq_false_iff_ne.2 h242), congrArg Value.bool (decide_eq_false h243), congrArg Value.bool (decide_eq_false h307), congrArg Value.bool (decide_eq_false h339), congrArg Value.bool (decide_eq_true h355), congrArg Value.bool (decide_eq_true h356)⟩
                  refine at_thn ?_
                  refine at_cond_t rfl (rfl) ?_
                  refine at_seq ?_
                  refine at_reg [] [2] (L2 := [(2, .int .i64 2)]) (obs := []) (by kernel_rfl) ?_ ?_
                  · intro w hs; exact trivial
                  refine at_thn ?_
                  refine at_ret ?_
                  refine at_then_ret ?_
                  obtain rfl := Option.some.inj H
                  refine at_done (vs := [.int .i64 2]) (obs := []) (.inl rfl) [.tmp 2] [] rfl (by kernel_rfl) (fun w hs => trivial) (fun w hs => ⟨_, _, [], rfl, ⟨rfl, rfl⟩, hle, hs⟩)
                · rw [if_neg h356] at H
                  by_cases h357 : p137 ≥ 65281
                  · rw [if_pos h357] at H
                    by_cases h358 : p137 ≤ 65376
                    · rw [if_pos h358] at H
                      refine at_reg [(2, .bool false), (6, .bool false), (9, .bool false), (17, .bool false), (25, .bool false), (33, .bool true), (38, .bool false), (41, .bool true), (46, .bool true)] [67] (L2 := [(67, .bool true)]) (obs := [fun _ => (.bool (decide (p137 < 32)) : Value) = .bool false, fun _ => (.bool (p137 == 127) : Value) = .bool false, fun _ => (.bool (decide (p137 ≥ 4352)) : Value) = .bool false, fun _ => (.bool (decide (p137 ≥ 11904)) : Value) = .bool false, fun _ => (.bool (decide (p137 ≥ 44032)) : Value) = .bool false, fun _ => (.bool (decide (p137 ≥ 63744)) : Value) = .bool true, fun _ => (.bool (decide (p137 ≤ 64255)) : Value) = .bool false, fun _ => (.bool (decide (p137 ≥ 65281)) : Value) = .bool true, fun _ => (.bool (decide (p137 ≤ 65376)) : Value) = .bool true]) (by kernel_rfl) ?_ ?_
                      · intro w hs; exact ⟨congrArg Value.bool (decide_eq_false h241), congrArg Value.bool (beq_eq_false_iff_ne.2 h242), congrArg Value.bool (decide_eq_false h243), congrArg Value.bool (decide_eq_false h307), congrArg Value.bool (decide_eq_false h339), congrArg Value.bool (decide_eq_true h355), congrArg Value.bool (decide_eq_false h356), congrArg Value.bool (decide_eq_true h357), congrArg Value.bool (decide_eq_true h358)⟩
                      refine at_thn ?_
                      refine at_cond_t rfl (rfl) ?_
                      refine at_seq ?_
                      refine at_reg [] [2] (L2 := [(2, .int .i64 2)]) (obs := []) (by kernel_rfl) ?_ ?_
                      · intro w hs; exact trivial
                      refine at_thn ?_
                      refine at_ret ?_
                      refine at_then_ret ?_
                      obtain rfl := Option.some.inj H
                      refine at_done (vs := [.int .i64 2]) (obs := []) (.inl rfl) [.tmp 2] [] rfl (by kernel_rfl) (fun w hs => trivial) (fun w hs => ⟨_, _, [], rfl, ⟨rfl, rfl⟩, hle, hs⟩)
                    · rw [if_neg h358] at H
                      by_cases h359 : p137 ≥ 127744
                      · rw [if_pos h359] at H
                        refine at_reg [(2, .bool false), (6, .bool false), (9, .bool false), (17, .bool false), (25, .bool false), (33, .bool true), (38, .bool false), (41, .bool true), (46, .bool false), (49, .bool true)] [67] (L2 := [(67, .bool (decide (p137 ≤ 129791)))]) (obs := [fun _ => (.bool (decide (p137 < 32)) : Value) = .bool false, fun _ => (.bool (p137 == 127) : Value) = .bool false, fun _ => (.bool (decide (p137 ≥ 4352)) : Value) = .bool false, fun _ => (.bool (decide (p137 ≥ 11904)) : Value) = .bool false, fun _ => (.bool (decide (p137 ≥ 44032)) : Value) = .bool false, fun _ => (.bool (decide (p137 ≥ 63744)) : Value) = .bool true, fun _ => (.bool (decide (p137 ≤ 64255)) : Value) = .bool false, fun _ => (.bool (decide (p137 ≥ 65281)) : Value) = .bool true, fun _ => (.bool (decide (p137 ≤ 65376)) : Value) = .bool false, fun _ => (.bool (decide (p137 ≥ 127744)) : Value) = .bool true]) (by kernel_rfl) ?_ ?_
                        · intro w hs; exact ⟨congrArg Value.bool (decide_eq_false h241), congrArg Value.bool (beq_eq_false_iff_ne.2 h242), congrArg Value.bool (decide_eq_false h243), congrArg Value.bool (decide_eq_false h307), congrArg Value.bool (decide_eq_false h339), congrArg Value.bool (decide_eq_true h355), congrArg Value.bool (decide_eq_false h356), congrArg Value.bool (decide_eq_true h357), congrArg Value.bool (decide_eq_false h358), congrArg Value.bool (decide_eq_true h359)⟩
                        refine at_thn ?_
                        by_cases h360 : p137 ≤ 129791
                        · rw [if_pos h360] at H
                          refine at_cond_t rfl (decide_eq_true h360) ?_
                          refine at_seq ?_
                          refine at_reg [] [2] (L2 := [(2, .int .i64 2)]) (obs := []) (by kernel_rfl) ?_ ?_
                          · intro w hs; exact trivial
                          refine at_thn ?_
                          refine at_ret ?_
                          refine at_then_ret ?_
                          obtain rfl := Option.some.inj H
                          refine at_done (vs := [.int .i64 2]) (obs := []) (.inl rfl) [.tmp 2] [] rfl (by kernel_rfl) (fun w hs => trivial) (fun w hs => ⟨_, _, [], rfl, ⟨rfl, rfl⟩, hle, hs⟩)
                        · rw [if_neg h360] at H
                          refine at_cond_f rfl (decide_eq_false h360) ?_
                          refine at_skip ?_
                          refine at_thn ?_
                          refine at_seq ?_
                          refine at_reg [] [2] (L2 := [(2, .int .i64 1)]) (obs := []) (by kernel_rfl) ?_ ?_
                          · intro w hs; exact trivial
                          refine at_thn ?_
                          refine at_ret ?_
                          obtain rfl := Option.some.inj H
                          refine at_done (vs := [.int .i64 1]) (obs := []) (.inl rfl) [.tmp 2] [] rfl (by kernel_rfl) (fun w hs => trivial) (fun w hs => ⟨_, _, [], rfl, ⟨rfl, rfl⟩, hle, hs⟩)
                      · rw [if_neg h359] at H
                        refine at_reg [(2, .bool false), (6, .bool false), (9, .bool false), (17, .bool false), (25, .bool false), (33, .bool true), (38, .bool false), (41, .bool true), (46, .bool false), (49, .bool false)] [67] (L2 := [(67, .bool false)]) (obs := [fun _ => (.bool (decide (p137 < 32)) : Value) = .bool false, fun _ => (.bool (p137 == 127) : Value) = .bool false, fun _ => (.bool (decide (p137 ≥ 4352)) : Value) = .bool false, fun _ => (.bool (decide (p137 ≥ 11904)) : Value) = .bool false, fun _ => (.bool (decide (p137 ≥ 44032)) : Value) = .bool false, fun _ => (.bool (decide (p137 ≥ 63744)) : Value) = .bool true, fun _ => (.bool (decide (p137 ≤ 64255)) : Value) = .bool false, fun _ => (.bool (decide (p137 ≥ 65281)) : Value) = .bool true, fun _ => (.bool (decide (p137 ≤ 65376)) : Value) = .bool false, fun _ => (.bool (decide (p137 ≥ 127744)) : Value) = .bool false]) (by kernel_rfl) ?_ ?_
                        · intro w hs; exact ⟨congrArg Value.bool (decide_eq_false h241), congrArg Value.bool (beq_eq_false_iff_ne.2 h242), congrArg Value.bool (decide_eq_false h243), congrArg Value.bool (decide_eq_false h307), congrArg Value.bool (decide_eq_false h339), congrArg Value.bool (decide_eq_true h355), congrArg Value.bool (decide_eq_false h356), congrArg Value.bool (decide_eq_true h357), congrArg Value.bool (decide_eq_false h358), congrArg Value.bool (decide_eq_false h359)⟩
                        refine at_thn ?_
                        refine at_cond_f rfl (rfl) ?_
                        refine at_skip ?_
                        refine at_thn ?_
                        refine at_seq ?_
                        refine at_reg [] [2] (L2 := [(2, .int .i64 1)]) (obs := []) (by kernel_rfl) ?_ ?_
                        · intro w hs; exact trivial
                        refine at_thn ?_
                        refine at_ret ?_
                        obtain rfl := Option.some.inj H
                        refine at_done (vs := [.int .i64 1]) (obs := []) (.inl rfl) [.tmp 2] [] rfl (by kernel_rfl) (fun w hs => trivial) (fun w hs => ⟨_, _, [], rfl, ⟨rfl, rfl⟩, hle, hs⟩)
                  · rw [if_neg h357] at H
                    by_cases h361 : p137 ≥ 127744
                    · rw [if_pos h361] at H
                      refine at_reg [(2, .bool false), (6, .bool false), (9, .bool false), (17, .bool false), (25, .bool false), (33, .bool true), (38, .bool false), (41, .bool false), (49, .bool true)] [67] (L2 := [(67, .bool (decide (p137 ≤ 129791)))]) (obs := [fun _ => (.bool (decide (p137 < 32)) : Value) = .bool false, fun _ => (.bool (p137 == 127) : Value) = .bool false, fun _ => (.bool (decide (p137 ≥ 4352)) : Value) = .bool false, fun _ => (.bool (decide (p137 ≥ 11904)) : Value) = .bool false, fun _ => (.bool (decide (p137 ≥ 44032)) : Value) = .bool false, fun _ => (.bool (decide (p137 ≥ 63744)) : Value) = .bool true, fun _ => (.bool (decide (p137 ≤ 64255)) : Value) = .bool false, fun _ => (.bool (decide (p137 ≥ 65281)) : Value) = .bool false, fun _ => (.bool (decide (p137 ≥ 127744)) : Value) = .bool true]) (by kernel_rfl) ?_ ?_
                      · intro w hs; exact ⟨congrArg Value.bool (decide_eq_false h241), congrArg Value.bool (beq_eq_false_iff_ne.2 h242), congrArg Value.bool (decide_eq_false h243), congrArg Value.bool (decide_eq_false h307), congrArg Value.bool (decide_eq_false h339), congrArg Value.bool (decide_eq_true h355), congrArg Value.bool (decide_eq_false h356), congrArg Value.bool (decide_eq_false h357), congrArg Value.bool (decide_eq_true h361)⟩
                      refine at_thn ?_
                      by_cases h362 : p137 ≤ 129791
                      · rw [if_pos h362] at H
                        refine at_cond_t rfl (decide_eq_true h362) ?_
                        refine at_seq ?_
                        refine at_reg [] [2] (L2 := [(2, .int .i64 2)]) (obs := []) (by kernel_rfl) ?_ ?_
                        · intro w hs; exact trivial
                        refine at_thn ?_
                        refine at_ret ?_
                        refine at_then_ret ?_
                        obtain rfl := Option.some.inj H
                        refine at_done (vs := [.int .i64 2]) (obs := []) (.inl rfl) [.tmp 2] [] rfl (by kernel_rfl) (fun w hs => trivial) (fun w hs => ⟨_, _, [], rfl, ⟨rfl, rfl⟩, hle, hs⟩)
                      · rw [if_neg h362] at H
                        refine at_cond_f rfl (decide_eq_false h362) ?_
                        refine at_skip ?_
                        refine at_thn ?_
                        refine at_seq ?_
                        refine at_reg [] [2] (L2 := [(2, .int .i64 1)]) (obs := []) (by kernel_rfl) ?_ ?_
                        · intro w hs; exact trivial
                        refine at_thn ?_
                        refine at_ret ?_
                        obtain rfl := Option.some.inj H
                        refine at_done (vs := [.int .i64 1]) (obs := []) (.inl rfl) [.tmp 2] [] rfl (by kernel_rfl) (fun w hs => trivial) (fun w hs => ⟨_, _, [], rfl, ⟨rfl, rfl⟩, hle, hs⟩)
                    · rw [if_neg h361] at H
                      refine at_reg [(2, .bool false), (6, .bool false), (9, .bool false), (17, .bool false), (25, .bool false), (33, .bool true), (38, .bool false), (41, .bool false), (49, .bool false)] [67] (L2 := [(67, .bool false)]) (obs := [fun _ => (.bool (decide (p137 < 32)) : Value) = .bool false, fun _ => (.bool (p137 == 127) : Value) = .bool false, fun _ => (.bool (decide (p137 ≥ 4352)) : Value) = .bool false, fun _ => (.bool (decide (p137 ≥ 11904)) : Value) = .bool false, fun _ => (.bool (decide (p137 ≥ 44032)) : Value) = .bool false, fun _ => (.bool (decide (p137 ≥ 63744)) : Value) = .bool true, fun _ => (.bool (decide (p137 ≤ 64255)) : Value) = .bool false, fun _ => (.bool (decide (p137 ≥ 65281)) : Value) = .bool false, fun _ => (.bool (decide (p137 ≥ 127744)) : Value) = .bool false]) (by kernel_rfl) ?_ ?_
                      · intro w hs; exact ⟨congrArg Value.bool (decide_eq_false h241), congrArg Value.bool (beq_eq_false_iff_ne.2 h242), congrArg Value.bool (decide_eq_false h243), congrArg Value.bool (decide_eq_false h307), congrArg Value.bool (decide_eq_false h339), congrArg Value.bool (decide_eq_true h355), congrArg Value.bool (decide_eq_false h356), congrArg Value.bool (decide_eq_false h357), congrArg Value.bool (decide_eq_false h361)⟩
                      refine at_thn ?_
                      refine at_cond_f rfl (rfl) ?_
                      refine at_skip ?_
                      refine at_thn ?_
                      refine at_seq ?_
                      refine at_reg [] [2] (L2 := [(2, .int .i64 1)]) (obs := []) (by kernel_rfl) ?_ ?_
                      · intro w hs; exact trivial
                      refine at_thn ?_
                      refine at_ret ?_
                      obtain rfl := Option.some.inj H
                      refine at_done (vs := [.int .i64 1]) (obs := []) (.inl rfl) [.tmp 2] [] rfl (by kernel_rfl) (fun w hs => trivial) (fun w hs => ⟨_, _, [], rfl, ⟨rfl, rfl⟩, hle, hs⟩)
              · rw [if_neg h355] at H
                by_cases h363 : p137 ≥ 65281
                · rw [if_pos h363] at H
                  by_cases h364 : p137 ≤ 65376
                  · rw [if_pos h364] at H
                    refine at_reg [(2, .bool false), (6, .bool false), (9, .bool false), (17, .bool false), (25, .bool false), (33, .bool false), (41, .bool true), (46, .bool true)] [67] (L2 := [(67, .bool true)]) (obs := [fun _ => (.bool (decide (p137 < 32)) : Value) = .bool false, fun _ => (.bool (p137 == 127) : Value) = .bool false, fun _ => (.bool (decide (p137 ≥ 4352)) : Value) = .bool false, fun _ => (.bool (decide (p137 ≥ 11904)) : Value) = .bool false, fun _ => (.bool (decide (p137 ≥ 44032)) : Value) = .bool false, fun _ => (.bool (decide (p137 ≥ 63744)) : Value) = .bool false, fun _ => (.bool (decide (p137 ≥ 65281)) : Value) = .bool true, fun _ => (.bool (decide (p137 ≤ 65376)) : Value) = .bool true]) (by kernel_rfl) ?_ ?_
                    · intro w hs; exact ⟨congrArg Value.bool (decide_eq_false h241), congrArg Value.bool (beq_eq_false_iff_ne.2 h242), congrArg Value.bool (decide_eq_false h243), congrArg Value.bool (decide_eq_false h307), congrArg Value.bool (decide_eq_false h339), congrArg Value.bool (decide_eq_false h355), congrArg Value.bool (decide_eq_true h363), congrArg Value.bool (decide_eq_true h364)⟩
                    refine at_thn ?_
                    refine at_cond_t rfl (rfl) ?_
                    refine at_seq ?_
                    refine at_reg [] [2] (L2 := [(2, .int .i64 2)]) (obs := []) (by kernel_rfl) ?_ ?_
                    · intro w hs; exact trivial
                    refine at_thn ?_
                    refine at_ret ?_
                    refine at_then_ret ?_
                    obtain rfl := Option.some.inj H
                    refine at_done (vs := [.int .i64 2]) (obs := []) (.inl rfl) [.tmp 2] [] rfl (by kernel_rfl) (fun w hs => trivial) (fun w hs => ⟨_, _, [], rfl, ⟨rfl, rfl⟩, hle, hs⟩)
                  · rw [if_neg h364] at H
                    by_cases h365 : p137 ≥ 127744
                    · rw [if_pos h365] at H
                      refine at_reg [(2, .bool false), (6, .bool false), (9, .bool false), (17, .bool false), (25, .bool false), (33, .bool false), (41, .bool true), (46, .bool false), (49, .bool true)] [67] (L2 := [(67, .bool (decide (p137 ≤ 129791)))]) (obs := [fun _ => (.bool (decide (p137 < 32)) : Value) = .bool false, fun _ => (.bool (p137 == 127) : Value) = .bool false, fun _ => (.bool (decide (p137 ≥ 4352)) : Value) = .bool false, fun _ => (.bool (decide (p137 ≥ 11904)) : Value) = .bool false, fun _ => (.bool (decide (p137 ≥ 44032)) : Value) = .bool false, fun _ => (.bool (decide (p137 ≥ 63744)) : Value) = .bool false, fun _ => (.bool (decide (p137 ≥ 65281)) : Value) = .bool true, fun _ => (.bool (decide (p137 ≤ 65376)) : Value) = .bool false, fun _ => (.bool (decide (p137 ≥ 127744)) : Value) = .bool true]) (by kernel_rfl) ?_ ?_
                      · intro w hs; exact ⟨congrArg Value.bool (decide_eq_false h241), congrArg Value.bool (beq_eq_false_iff_ne.2 h242), congrArg Value.bool (decide_eq_false h243), congrArg Value.bool (decide_eq_false h307), congrArg Value.bool (decide_eq_false h339), congrArg Value.bool (decide_eq_false h355), congrArg Value.bool (decide_eq_true h363), congrArg Value.bool (decide_eq_false h364), congrArg Value.bool (decide_eq_true h365)⟩
                      refine at_thn ?_
                      by_cases h366 : p137 ≤ 129791
                      · rw [if_pos h366] at H
                        refine at_cond_t rfl (decide_eq_true h366) ?_
                        refine at_seq ?_
                        refine at_reg [] [2] (L2 := [(2, .int .i64 2)]) (obs := []) (by kernel_rfl) ?_ ?_
                        · intro w hs; exact trivial
                        refine at_thn ?_
                        refine at_ret ?_
                        refine at_then_ret ?_
                        obtain rfl := Option.some.inj H
                        refine at_done (vs := [.int .i64 2]) (obs := []) (.inl rfl) [.tmp 2] [] rfl (by kernel_rfl) (fun w hs => trivial) (fun w hs => ⟨_, _, [], rfl, ⟨rfl, rfl⟩, hle, hs⟩)
                      · rw [if_neg h366] at H
                        refine at_cond_f rfl (decide_eq_false h366) ?_
                        refine at_skip ?_
                        refine at_thn ?_
                        refine at_seq ?_
                        refine at_reg [] [2] (L2 := [(2, .int .i64 1)]) (obs := []) (by kernel_rfl) ?_ ?_
                        · intro w hs; exact trivial
                        refine at_thn ?_
                        refine at_ret ?_
                        obtain rfl := Option.some.inj H
                        refine at_done (vs := [.int .i64 1]) (obs := []) (.inl rfl) [.tmp 2] [] rfl (by kernel_rfl) (fun w hs => trivial) (fun w hs => ⟨_, _, [], rfl, ⟨rfl, rfl⟩, hle, hs⟩)
                    · rw [if_neg h365] at H
                      refine at_reg [(2, .bool false), (6, .bool false), (9, .bool false), (17, .bool false), (25, .bool false), (33, .bool false), (41, .bool true), (46, .bool false), (49, .bool false)] [67] (L2 := [(67, .bool false)]) (obs := [fun _ => (.bool (decide (p137 < 32)) : Value) = .bool false, fun _ => (.bool (p137 == 127) : Value) = .bool false, fun _ => (.bool (decide (p137 ≥ 4352)) : Value) = .bool false, fun _ => (.bool (decide (p137 ≥ 11904)) : Value) = .bool false, fun _ => (.bool (decide (p137 ≥ 44032)) : Value) = .bool false, fun _ => (.bool (decide (p137 ≥ 63744)) : Value) = .bool false, fun _ => (.bool (decide (p137 ≥ 65281)) : Value) = .bool true, fun _ => (.bool (decide (p137 ≤ 65376)) : Value) = .bool false, fun _ => (.bool (decide (p137 ≥ 127744)) : Value) = .bool false]) (by kernel_rfl) ?_ ?_
                      · intro w hs; exact ⟨congrArg Value.bool (decide_eq_false h241), congrArg Value.bool (beq_eq_false_iff_ne.2 h242), congrArg Value.bool (decide_eq_false h243), congrArg Value.bool (decide_eq_false h307), congrArg Value.bool (decide_eq_false h339), congrArg Value.bool (decide_eq_false h355), congrArg Value.bool (decide_eq_true h363), congrArg Value.bool (decide_eq_false h364), congrArg Value.bool (decide_eq_false h365)⟩
                      refine at_thn ?_
                      refine at_cond_f rfl (rfl) ?_
                      refine at_skip ?_
                      refine at_thn ?_
                      refine at_seq ?_
                      refine at_reg [] [2] (L2 := [(2, .int .i64 1)]) (obs := []) (by kernel_rfl) ?_ ?_
                      · intro w hs; exact trivial
                      refine at_thn ?_
                      refine at_ret ?_
                      obtain rfl := Option.some.inj H
                      refine at_done (vs := [.int .i64 1]) (obs := []) (.inl rfl) [.tmp 2] [] rfl (by kernel_rfl) (fun w hs => trivial) (fun w hs => ⟨_, _, [], rfl, ⟨rfl, rfl⟩, hle, hs⟩)
                · rw [if_neg h363] at H
                  by_cases h367 : p137 ≥ 127744
                  · rw [if_pos h367] at H
                    refine at_reg [(2, .bool false), (6, .bool false), (9, .bool false), (17, .bool false), (25, .bool false), (33, .bool false), (41, .bool false), (49, .bool true)] [67] (L2 := [(67, .bool (decide (p137 ≤ 129791)))]) (obs := [fun _ => (.bool (decide (p137 < 32)) : Value) = .bool false, fun _ => (.bool (p137 == 127) : Value) = .bool false, fun _ => (.bool (decide (p137 ≥ 4352)) : Value) = .bool false, fun _ => (.bool (decide (p137 ≥ 11904)) : Value) = .bool false, fun _ => (.bool (decide (p137 ≥ 44032)) : Value) = .bool false, fun _ => (.bool (decide (p137 ≥ 63744)) : Value) = .bool false, fun _ => (.bool (decide (p137 ≥ 65281)) : Value) = .bool false, fun _ => (.bool (decide (p137 ≥ 127744)) : Value) = .bool true]) (by kernel_rfl) ?_ ?_
                    · intro w hs; exact ⟨congrArg Value.bool (decide_eq_false h241), congrArg Value.bool (beq_eq_false_iff_ne.2 h242), congrArg Value.bool (decide_eq_false h243), congrArg Value.bool (decide_eq_false h307), congrArg Value.bool (decide_eq_false h339), congrArg Value.bool (decide_eq_false h355), congrArg Value.bool (decide_eq_false h363), congrArg Value.bool (decide_eq_true h367)⟩
                    refine at_thn ?_
                    by_cases h368 : p137 ≤ 129791
                    · rw [if_pos h368] at H
                      refine at_cond_t rfl (decide_eq_true h368) ?_
                      refine at_seq ?_
                      refine at_reg [] [2] (L2 := [(2, .int .i64 2)]) (obs := []) (by kernel_rfl) ?_ ?_
                      · intro w hs; exact trivial
                      refine at_thn ?_
                      refine at_ret ?_
                      refine at_then_ret ?_
                      obtain rfl := Option.some.inj H
                      refine at_done (vs := [.int .i64 2]) (obs := []) (.inl rfl) [.tmp 2] [] rfl (by kernel_rfl) (fun w hs => trivial) (fun w hs => ⟨_, _, [], rfl, ⟨rfl, rfl⟩, hle, hs⟩)
                    · rw [if_neg h368] at H
                      refine at_cond_f rfl (decide_eq_false h368) ?_
                      refine at_skip ?_
                      refine at_thn ?_
                      refine at_seq ?_
                      refine at_reg [] [2] (L2 := [(2, .int .i64 1)]) (obs := []) (by kernel_rfl) ?_ ?_
                      · intro w hs; exact trivial
                      refine at_thn ?_
                      refine at_ret ?_
                      obtain rfl := Option.some.inj H
                      refine at_done (vs := [.int .i64 1]) (obs := []) (.inl rfl) [.tmp 2] [] rfl (by kernel_rfl) (fun w hs => trivial) (fun w hs => ⟨_, _, [], rfl, ⟨rfl, rfl⟩, hle, hs⟩)
                  · rw [if_neg h367] at H
                    refine at_reg [(2, .bool false), (6, .bool false), (9, .bool false), (17, .bool false), (25, .bool false), (33, .bool false), (41, .bool false), (49, .bool false)] [67] (L2 := [(67, .bool false)]) (obs := [fun _ => (.bool (decide (p137 < 32)) : Value) = .bool false, fun _ => (.bool (p137 == 127) : Value) = .bool false, fun _ => (.bool (decide (p137 ≥ 4352)) : Value) = .bool false, fun _ => (.bool (decide (p137 ≥ 11904)) : Value) = .bool false, fun _ => (.bool (decide (p137 ≥ 44032)) : Value) = .bool false, fun _ => (.bool (decide (p137 ≥ 63744)) : Value) = .bool false, fun _ => (.bool (decide (p137 ≥ 65281)) : Value) = .bool false, fun _ => (.bool (decide (p137 ≥ 127744)) : Value) = .bool false]) (by kernel_rfl) ?_ ?_
                    · intro w hs; exact ⟨congrArg Value.bool (decide_eq_false h241), congrArg Value.bool (beq_eq_false_iff_ne.2 h242), congrArg Value.bool (decide_eq_false h243), congrArg Value.bool (decide_eq_false h307), congrArg Value.bool (decide_eq_false h339), congrArg Value.bool (decide_eq_false h355), congrArg Value.bool (decide_eq_false h363), congrArg Value.bool (decide_eq_false h367)⟩
                    refine at_thn ?_
                    refine at_cond_f rfl (rfl) ?_
                    refine at_skip ?_
                    refine at_thn ?_
                    refine at_seq ?_
                    refine at_reg [] [2] (L2 := [(2, .int .i64 1)]) (obs := []) (by kernel_rfl) ?_ ?_
                    · intro w hs; exact trivial
                    refine at_thn ?_
                    refine at_ret ?_
                    obtain rfl := Option.some.inj H
                    refine at_done (vs := [.int .i64 1]) (obs := []) (.inl rfl) [.tmp 2] [] rfl (by kernel_rfl) (fun w hs => trivial) (fun w hs => ⟨_, _, [], rfl, ⟨rfl, rfl⟩, hle, hs⟩)
  · intro Jn138
    refine at_seq ?_
    refine at_ops [0, 1, 2, 3, 4, 5, 6, 7, 8, 9, 10] rfl ?_
    refine at_seg [0] [1, 2, 3, 4, 5, 6, 7, 8, 9, 10] rfl [] [0, 3] (L2 := [(0, .int .i64 p137), (3, .int .i64 p137)]) (obs := []) (by kernel_rfl) ?_ ?_
    · intro w hs; exact trivial
    refine at_eff rfl rfl ?_
    obtain ⟨b10, H369, H⟩ := bind_some H
    have hm_ := spec_l01Point.calls (I0 := I0) H369
    refine eff_call rfl rfl ok49 rfl rfl (show Meets Try.prog 49 ([.int .i64 p137] : List Value).toArray _ [] _ from hm_) (Mr := (Fs)) (List.Perm.refl _) (fun v370 J371 M372 hq373 hJ374 => ?_)
    replace hle := hle.trans hJ374
    obtain ⟨rfl, rfl⟩ := hq373
    by_cases h375 : b10 = true
    · rw [if_pos h375] at H
      by_cases h376 : p137 ≥ 768
      · rw [if_pos h376] at H
        refine at_seg [2, 3, 4, 5, 6, 7, 8, 9, 10] [] rfl [(3, .bool false), (6, .bool true)] [0, 13] (L2 := [(0, .int .i64 p137), (13, .bool (decide (p137 ≤ 879)))]) (obs := [fun _ => (.bool (!b10) : Value) = .bool false, fun _ => (.bool (decide (p137 ≥ 768)) : Value) = .bool true]) (by kernel_rfl) ?_ ?_
        · intro w hs; exact ⟨congrArg Value.bool (not_ff (h375)), congrArg Value.bool (decide_eq_true h376)⟩
        refine at_end ?_
        refine at_thn ?_
        by_cases h377 : p137 ≤ 879
        · rw [if_pos h377] at H
          refine at_cond_t rfl (decide_eq_true h377) ?_
          refine at_seq ?_
          refine at_reg [] [2] (L2 := [(2, .int .i64 0)]) (obs := []) (by kernel_rfl) ?_ ?_
          · intro w hs; exact trivial
          refine at_thn ?_
          refine at_ret ?_
          refine at_then_ret ?_
          obtain rfl := Option.some.inj H
          refine at_done (vs := [.int .i64 0]) (obs := []) (.inl rfl) [.tmp 2] [] rfl (by kernel_rfl) (fun w hs => trivial) (fun w hs => ⟨_, _, [], rfl, ⟨rfl, rfl⟩, hle, hs⟩)
        · rw [if_neg h377] at H
          refine at_cond_f rfl (decide_eq_false h377) ?_
          refine at_skip ?_
          refine at_thn ?_
          refine at_keep [0] (L2 := [(0, .int .i64 p137)]) rfl ?_
          exact Jn138 _ _ _ ⟨_, rfl, rfl, H, hle, by omega⟩
      · rw [if_neg h376] at H
        refine at_seg [2, 3, 4, 5, 6, 7, 8, 9, 10] [] rfl [(3, .bool false), (6, .bool false)] [0, 13] (L2 := [(0, .int .i64 p137), (13, .bool false)]) (obs := [fun _ => (.bool (!b10) : Value) = .bool false, fun _ => (.bool (decide (p137 ≥ 768)) : Value) = .bool false]) (by kernel_rfl) ?_ ?_
        · intro w hs; exact ⟨congrArg Value.bool (not_ff (h375)), congrArg Value.bool (decide_eq_false h376)⟩
        refine at_end ?_
        refine at_thn ?_
        refine at_cond_f rfl (rfl) ?_
        refine at_skip ?_
        refine at_thn ?_
        refine at_keep [0] (L2 := [(0, .int .i64 p137)]) rfl ?_
        exact Jn138 _ _ _ ⟨_, rfl, rfl, H, hle, by omega⟩
    · rw [if_neg h375] at H
      refine at_seg [2, 3, 4, 5, 6, 7, 8, 9, 10] [] rfl [(3, .bool true)] [0, 13] (L2 := [(0, .int .i64 p137), (13, .bool true)]) (obs := [fun _ => (.bool (!b10) : Value) = .bool true]) (by kernel_rfl) ?_ ?_
      · intro w hs; exact congrArg Value.bool (not_tt (ff_of h375))
      refine at_end ?_
      refine at_thn ?_
      refine at_cond_t rfl (rfl) ?_
      refine at_seq ?_
      refine at_reg [] [2] (L2 := [(2, .int .i64 0)]) (obs := []) (by kernel_rfl) ?_ ?_
      · intro w hs; exact trivial
      refine at_thn ?_
      refine at_ret ?_
      refine at_then_ret ?_
      obtain rfl := Option.some.inj H
      refine at_done (vs := [.int .i64 0]) (obs := []) (.inl rfl) [.tmp 2] [] rfl (by kernel_rfl) (fun w hs => trivial) (fun w hs => ⟨_, _, [], rfl, ⟨rfl, rfl⟩, hle, hs⟩)
end Go.Proofs.Ytnhnipdanpcbeaa
