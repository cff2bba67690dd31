import Derived.Test.YtnhnipdanpcbeaaV3
namespace Go.Proofs.Ytnhnipdanpcbeaa
open Go Eng
set_option linter.unusedVariables false
set_option linter.unusedSimpArgs false
/-! ### loop.example/g00146/spec.WidthOf: function 69 -/
def spec_WidthOf_j0 : Nat → Int → Option Int
  | 0, _ => none
  | k + 1, p223 => if p223 < 32 then (some 2) else (if p223 = 127 then (some 2) else (if p223 ≥ 4352 then (if p223 ≤ 4447 then (some 2) else (if p223 ≥ 11904 then (if p223 ≤ 42191 then (some 2) else (if p223 ≥ 44032 then (if p223 ≤ 55203 then (some 2) else (if p223 ≥ 63744 then (if p223 ≤ 64255 then (some 2) else (if p223 ≥ 65281 then (if p223 ≤ 65376 then (some 2) else (if p223 ≥ 127744 then (if p223 ≤ 129791 then (some 2) else (some 1)) else (some 1))) else (if p223 ≥ 127744 then (if p223 ≤ 129791 then (some 2) else (some 1)) else (some 1)))) else (if p223 ≥ 65281 then (if p223 ≤ 65376 then (some 2) else (if p223 ≥ 127744 then (if p223 ≤ 129791 then (some 2) else (some 1)) else (some 1))) else (if p223 ≥ 127744 then (if p223 ≤ 129791 then (some 2) else (some 1)) else (some 1))))) else (if p223 ≥ 63744 then (if p223 ≤ 64255 then (some 2) else (if p223 ≥ 65281 then (if p223 ≤ 65376 then (some 2) else (if p223 ≥ 127744 then (if p223 ≤ 129791 then (some 2) else (some 1)) else (some 1))) else (if p223 ≥ 127744 then (if p223 ≤ 129791 then (some 2) else (some 1)) else (some 1)))) else (if p223 ≥ 65281 then (if p223 ≤ 65376 then (some 2) else (if p223 ≥ 127744 then (if p223 ≤ 129791 then (some 2) else (some 1)) else (some 1))) else (if p223 ≥ 127744 then (if p223 ≤ 129791 then (some 2) else (some 1)) else (some 1)))))) else (if p223 ≥ 44032 then (if p223 ≤ 55203 then (some 2) else (if p223 ≥ 63744 then (if p223 ≤ 64255 then (some 2) else (if p223 ≥ 65281 then (if p223 ≤ 65376 then (some 2) else (if p223 ≥ 127744 then (if p223 ≤ 129791 then (some 2) else (some 1)) else (some 1))) else (if p223 ≥ 127744 then (if p223 ≤ 129791 then (some 2) else (some 1)) else (some 1)))) else (if p223 ≥ 65281 then (if p223 ≤ 65376 then (some 2) else (if p223 ≥ 127744 then (if p223 ≤ 129791 then (some 2) else (some 1)) else (some 1))) else (if p223 ≥ 127744 then (if p223 ≤ 129791 then (some 2) else (some 1)) else (some 1))))) else (if p223 ≥ 63744 then (if p223 ≤ 64255 then (some 2) else (if p223 ≥ 65281 then (if p223 ≤ 65376 then (some 2) else (if p223 ≥ 127744 then (if p223 ≤ 129791 then (some 2) else (some 1)) else (some 1))) else (if p223 ≥ 127744 then (if p223 ≤ 129791 then (some 2) else (some 1)) else (some 1)))) else (if p223 ≥ 65281 then (if p223 ≤ 65376 then (some 2) else (if p223 ≥ 127744 then (if p223 ≤ 129791 then (some 2) else (some 1)) else (some 1))) else (if p223 ≥ 127744 then (if p223 ≤ 129791 then (some 2) else (some 1)) else (some 1))))))) else (if p223 ≥ 11904 then (if p223 ≤ 42191 then (some 2) else (if p223 ≥ 44032 then (if p223 ≤ 55203 then (some 2) else (if p223 ≥ 63744 then (if p223 ≤ 64255 then (some 2) else (if p223 ≥ 65281 then (if p223 ≤ 65376 then (some 2) else (if p223 ≥ 127744 then (if p223 ≤ 129791 then (some 2) else (some 1)) else (some 1))) else (if p223 ≥ 127744 then (if p223 ≤ 129791 then (some 2) else (some 1)) else (some 1)))) else (if p223 ≥ 65281 then (if p223 ≤ 65376 then (some 2) else (if p223 ≥ 127744 then (if p223 ≤ 129791 then (some 2) else (some 1)) else (some 1))) else (if p223 ≥ 127744 then (if p223 ≤ 129791 then (some 2) else (some 1)) else (some 1))))) else (if p223 ≥ 63744 then (if p223 ≤ 64255 then (some 2) else (if p223 ≥ 65281 then (if p223 ≤ 65376 then (some 2) else (if p223 ≥ 127744 then (if p223 ≤ 129791 then (some 2) else (some 1)) else (some 1))) else (if p223 ≥ 127744 then (if p223 ≤ 129791 then (some 2) else (some 1)) else (some 1)))) else (if p223 ≥ 65281 then (if p223 ≤ 65376 then (some 2) else (if p223 ≥ 127744 then (if p223 ≤ 129791 then (some 2) else (some 1)) else (some 1))) else (if p223 ≥ 127744 then (if p223 ≤ 129791 then (some 2) else (some 1)) else (some 1)))))) else (if p223 ≥ 44032 then (if p223 ≤ 55203 then (some 2) else (if p223 ≥ 63744 then (if p223 ≤ 64255 then (some 2) else (if p223 ≥ 65281 then (if p223 ≤ 65376 then (some 2) else (if p223 ≥ 127744 then (if p223 ≤ 129791 then (some 2) else (some 1)) else (some 1))) else (if p223 ≥ 127744 then (if p223 ≤ 129791 then (some 2) else (some 1)) else (some 1)))) else (if p223 ≥ 65281 then (if p223 ≤ 65376 then (some 2) else (if p223 ≥ 127744 then (if p223 ≤ 129791 then (some 2) else (some 1)) else (some 1))) else (if p223 ≥ 127744 then (if p223 ≤ 129791 then (some 2) else (some 1)) else (some 1))))) else (if p223 ≥ 63744 then (if p223 ≤ 64255 then (some 2) else (if p223 ≥ 65281 then (if p223 ≤ 65376 then (some 2) else (if p223 ≥ 127744 then (if p223 ≤ 129791 then (some 2) else (some 1)) else (some 1))) else (if p223 ≥ 127744 then (if p223 ≤ 129791 then (some 2) else (some 1)) else (some 1)))) else (if p223 ≥ 65281 then (if p223 ≤ 65376 then (some 2) else (if p223 ≥ 127744 then (if p223 ≤ 129791 then (some 2) else (some 1)) else (some 1))) else (if p223 ≥ 127744 then (if p223 ≤ 129791 then (some 2) else (some 1)) else (some 1))))))))
def spec_WidthOf (k : Nat) (p223 : Int) : Option Int := (spec_l01Point p223).bind fun b8 => (if b8 = true then (if p223 ≥ 768 then (if p223 ≤ 879 then (some 0) else (spec_WidthOf_j0 k p223)) else (spec_WidthOf_j0 k p223)) else (some 0))
set_option maxHeartbeats 4000000 in
set_option maxRecDepth 100000 in
theorem spec_WidthOf.calls {k : Nat} {p223 : Int} {r : Int} {I0 : Imm} (H : spec_WidthOf k p223 = some r) :
    Meets Try.prog 69 ([.int .i64 p223] : List Value).toArray I0 [] (fun v J M => v = .int .i64 r ∧ M = []) := by
 have hle := ImmLe.refl I0
 unfold spec_WidthOf at H
 refine fn_intro (fn := Try.f69) 68 Try.func69 rfl rfl rfl (fun E Fs => ?_)
 refine at_seq (at_reg0 [] [0] [(0, iV p223)] ?_)
 refine at_thn (at_join (fun L I Ms => ∃ (k333 : Nat), L = [(0, iV p223)] ∧ Ms = ([] ++ Fs) ∧ spec_WidthOf_j0 k333 p223 = some r ∧ ImmLe I0 I ∧ k333 ≤ k) ?_ ?_)
 ·
  clear H hle
  intro L I Ms h_; obtain ⟨k333, hL_, hM_, H, hle, hk334⟩ := h_; rw [hL_, hM_]; clear hL_ hM_ L Ms
  rcases k333 with _ | k333
  · exact (no_none H).elim
  rw [spec_WidthOf_j0] at H
  refine at_seq (at_seq ?_)
  by_cases h335 : p223 < 32
  ·
   rw [if_pos h335] at H
   refine at_reg1 [(2, .bool true)] [67] [(67, .bool true)] [oT (p223 < 32)] (fun w hs => cT (h335)) ?_
   refine at_thn (at_cond_t rfl (rfl) ?_)
   refine at_seq (at_reg0 [] [2] [(2, iV 2)] ?_)
   refine at_thn (at_ret (at_then_ret ?_))
   obtain rfl := Option.some.inj H
   exact at_done0 [iV 2] (.inl rfl) [.tmp 2] fun w hs => ⟨_, _, [], rfl, ⟨rfl, rfl⟩, hle, hs⟩
  ·
   rw [if_neg h335] at H
   by_cases h336 : p223 = 127
   ·
    rw [if_pos h336] at H
    refine at_reg1 [(2, .bool false), (6, .bool true)] [67] [(67, .bool true)] [oF (p223 < 32), fun _ => (.bool (p223 == 127) : Value) = .bool true] (fun w hs => ⟨cF (h335), congrArg Value.bool (beq_iff_eq.2 h336)⟩) ?_
    refine at_thn (at_cond_t rfl (rfl) ?_)
    refine at_seq (at_reg0 [] [2] [(2, iV 2)] ?_)
    refine at_thn (at_ret (at_then_ret ?_))
    obtain rfl := Option.some.inj H
    exact at_done0 [iV 2] (.inl rfl) [.tmp 2] fun w hs => ⟨_, _, [], rfl, ⟨rfl, rfl⟩, hle, hs⟩
   ·
    rw [if_neg h336] at H
    by_cases h337 : p223 ≥ 4352
    ·
     rw [if_pos h337] at H
     by_cases h338 : p223 ≤ 4447
     ·
      rw [if_pos h338] at H
      refine at_reg1 [(2, .bool false), (6, .bool false), (9, .bool true), (14, .bool true)] [67] [(67, .bool true)] [oF (p223 < 32), fun _ => (.bool (p223 == 127) : Value) = .bool false, oT (p223 ≥ 4352), oT (p223 ≤ 4447)] (fun w hs => ⟨cF (h335), congrArg Value.bool (beq_eq_false_iff_ne.2 h336), cT (h337), cT (h338)⟩) ?_
      refine at_thn (at_cond_t rfl (rfl) ?_)
      refine at_seq (at_reg0 [] [2] [(2, iV 2)] ?_)
      refine at_thn (at_ret (at_then_ret ?_))
      obtain rfl := Option.some.inj H
      exact at_done0 [iV 2] (.inl rfl) [.tmp 2] fun w hs => ⟨_, _, [], rfl, ⟨rfl, rfl⟩, hle, hs⟩
     ·
      rw [if_neg h338] at H
      by_cases h339 : p223 ≥ 11904
      ·
       rw [if_pos h339] at H
       by_cases h340 : p223 ≤ 42191
       ·
        rw [if_pos h340] at H
        refine at_reg1 [(2, .bool false), (6, .bool false), (9, .bool true), (14, .bool false), (17, .bool true), (22, .bool true)] [67] [(67, .bool true)] [oF (p223 < 32), fun _ => (.bool (p223 == 127) : Value) = .bool false, oT (p223 ≥ 4352), oF (p223 ≤ 4447), oT (p223 ≥ 11904), oT (p223 ≤ 42191)] (fun w hs => ⟨cF (h335), congrArg Value.bool (beq_eq_false_iff_ne.2 h336), cT (h337), cF (h338), cT (h339), cT (h340)⟩) ?_
        refine at_thn (at_cond_t rfl (rfl) ?_)
        refine at_seq (at_reg0 [] [2] [(2, iV 2)] ?_)
        refine at_thn (at_ret (at_then_ret ?_))
        obtain rfl := Option.some.inj H
        exact at_done0 [iV 2] (.inl rfl) [.tmp 2] fun w hs => ⟨_, _, [], rfl, ⟨rfl, rfl⟩, hle, hs⟩
       ·
        rw [if_neg h340] at H
        by_cases h341 : p223 ≥ 44032
        ·
         rw [if_pos h341] at H
         by_cases h342 : p223 ≤ 55203
         ·
          rw [if_pos h342] at H
          refine at_reg1 [(2, .bool false), (6, .bool false), (9, .bool true), (14, .bool false), (17, .bool true), (22, .bool false), (25, .bool true), (30, .bool true)] [67] [(67, .bool true)] [oF (p223 < 32), fun _ => (.bool (p223 == 127) : Value) = .bool false, oT (p223 ≥ 4352), oF (p223 ≤ 4447), oT (p223 ≥ 11904), oF (p223 ≤ 42191), oT (p223 ≥ 44032), oT (p223 ≤ 55203)] (fun w hs => ⟨cF (h335), congrArg Value.bool (beq_eq_false_iff_ne.2 h336), cT (h337), cF (h338), cT (h339), cF (h340), cT (h341), cT (h342)⟩) ?_
          refine at_thn (at_cond_t rfl (rfl) ?_)
          refine at_seq (at_reg0 [] [2] [(2, iV 2)] ?_)
          refine at_thn (at_ret (at_then_ret ?_))
          obtain rfl := Option.some.inj H
          exact at_done0 [iV 2] (.inl rfl) [.tmp 2] fun w hs => ⟨_, _, [], rfl, ⟨rfl, rfl⟩, hle, hs⟩
         ·
          rw [if_neg h342] at H
          by_cases h343 : p223 ≥ 63744
          ·
           rw [if_pos h343] at H
           by_cases h344 : p223 ≤ 64255
           ·
            rw [if_pos h344] at H
            refine at_reg1 [(2, .bool false), (6, .bool false), (9, .bool true), (14, .bool false), (17, .bool true), (22, .bool false), (25, .bool true), (30, .bool false), (33, .bool true), (38, .bool true)] [67] [(67, .bool true)] [oF (p223 < 32), fun _ => (.bool (p223 == 127) : Value) = .bool false, oT (p223 ≥ 4352), oF (p223 ≤ 4447), oT (p223 ≥ 11904), oF (p223 ≤ 42191), oT (p223 ≥ 44032), oF (p223 ≤ 55203), oT (p223 ≥ 63744), oT (p223 ≤ 64255)] (fun w hs => ⟨cF (h335), congrArg Value.bool (beq_eq_false_iff_ne.2 h336), cT (h337), cF (h338), cT (h339), cF (h340), cT (h341), cF (h342), cT (h343), cT (h344)⟩) ?_
            refine at_thn (at_cond_t rfl (rfl) ?_)
            refine at_seq (at_reg0 [] [2] [(2, iV 2)] ?_)
            refine at_thn (at_ret (at_then_ret ?_))
            obtain rfl := Option.some.inj H
            exact at_done0 [iV 2] (.inl rfl) [.tmp 2] fun w hs => ⟨_, _, [], rfl, ⟨rfl, rfl⟩, hle, hs⟩
           ·
            rw [if_neg h344] at H
            by_cases h345 : p223 ≥ 65281
            ·
             rw [if_pos h345] at H
             by_cases h346 : p223 ≤ 65376
             ·
              rw [if_pos h346] at H
              refine at_reg1 [(2, .bool false), (6, .bool false), (9, .bool true), (14, .bool false), (17, .bool true), (22, .bool false), (25, .bool true), (30, .bool false), (33, .bool true), (38, .bool false), (41, .bool true), (46, .bool true)] [67] [(67, .bool true)] [oF (p223 < 32), fun _ => (.bool (p223 == 127) : Value) = .bool false, oT (p223 ≥ 4352), oF (p223 ≤ 4447), oT (p223 ≥ 11904), oF (p223 ≤ 42191), oT (p223 ≥ 44032), oF (p223 ≤ 55203), oT (p223 ≥ 63744), oF (p223 ≤ 64255), oT (p223 ≥ 65281), oT (p223 ≤ 65376)] (fun w hs => ⟨cF (h335), congrArg Value.bool (beq_eq_false_iff_ne.2 h336), cT (h337), cF (h338), cT (h339), cF (h340), cT (h341), cF (h342), cT (h343), cF (h344), cT (h345), cT (h346)⟩) ?_
              refine at_thn (at_cond_t rfl (rfl) ?_)
              refine at_seq (at_reg0 [] [2] [(2, iV 2)] ?_)
              refine at_thn (at_ret (at_then_ret ?_))
              obtain rfl := Option.some.inj H
              exact at_done0 [iV 2] (.inl rfl) [.tmp 2] fun w hs => ⟨_, _, [], rfl, ⟨rfl, rfl⟩, hle, hs⟩
             ·
              rw [if_neg h346] at H
              by_cases h347 : p223 ≥ 127744
              ·
               rw [if_pos h347] at H
               refine at_reg1 [(2, .bool false), (6, .bool false), (9, .bool true), (14, .bool false), (17, .bool true), (22, .bool false), (25, .bool true), (30, .bool false), (33, .bool true), (38, .bool false), (41, .bool true), (46, .bool false), (49, .bool true)] [67] [(67, .bool (decide (p223 ≤ 129791)))] [oF (p223 < 32), fun _ => (.bool (p223 == 127) : Value) = .bool false, oT (p223 ≥ 4352), oF (p223 ≤ 4447), oT (p223 ≥ 11904), oF (p223 ≤ 42191), oT (p223 ≥ 44032), oF (p223 ≤ 55203), oT (p223 ≥ 63744), oF (p223 ≤ 64255), oT (p223 ≥ 65281), oF (p223 ≤ 65376), oT (p223 ≥ 127744)] (fun w hs => ⟨cF (h335), congrArg Value.bool (beq_eq_false_iff_ne.2 h336), cT (h337), cF (h338), cT (h339), cF (h340), cT (h341), cF (h342), cT (h343), cF (h344), cT (h345), cF (h346), cT (h347)⟩) ?_
               refine at_thn ?_
               by_cases h348 : p223 ≤ 129791
               ·
                rw [if_pos h348] at H
                refine at_cond_t rfl (decide_eq_true h348) ?_
                refine at_seq (at_reg0 [] [2] [(2, iV 2)] ?_)
                refine at_thn (at_ret (at_then_ret ?_))
                obtain rfl := Option.some.inj H
                exact at_done0 [iV 2] (.inl rfl) [.tmp 2] fun w hs => ⟨_, _, [], rfl, ⟨rfl, rfl⟩, hle, hs⟩
               ·
                rw [if_neg h348] at H
                refine at_cond_f rfl (decide_eq_false h348) ?_
                refine at_skip (at_thn (at_seq (at_reg0 [] [2] [(2, iV 1)] ?_)))
                refine at_thn (at_ret ?_)
                obtain rfl := Option.some.inj H
                exact at_done0 [iV 1] (.inl rfl) [.tmp 2] fun w hs => ⟨_, _, [], rfl, ⟨rfl, rfl⟩, hle, hs⟩
              ·
               rw [if_neg h347] at H
               refine at_reg1 [(2, .bool false), (6, .bool false), (9, .bool true), (14, .bool false), (17, .bool true), (22, .bool false), (25, .bool true), (30, .bool false), (33, .bool true), (38, .bool false), (41, .bool true), (46, .bool false), (49, .bool false)] [67] [(67, .bool false)] [oF (p223 < 32), fun _ => (.bool (p223 == 127) : Value) = .bool false, oT (p223 ≥ 4352), oF (p223 ≤ 4447), oT (p223 ≥ 11904), oF (p223 ≤ 42191), oT (p223 ≥ 44032), oF (p223 ≤ 55203), oT (p223 ≥ 63744), oF (p223 ≤ 64255), oT (p223 ≥ 65281), oF (p223 ≤ 65376), oF (p223 ≥ 127744)] (fun w hs => ⟨cF (h335), congrArg Value.bool (beq_eq_false_iff_ne.2 h336), cT (h337), cF (h338), cT (h339), cF (h340), cT (h341), cF (h342), cT (h343), cF (h344), cT (h345), cF (h346), cF (h347)⟩) ?_
               refine at_thn (at_cond_f rfl (rfl) ?_)
               refine at_skip (at_thn (at_seq (at_reg0 [] [2] [(2, iV 1)] ?_)))
               refine at_thn (at_ret ?_)
               obtain rfl := Option.some.inj H
               exact at_done0 [iV 1] (.inl rfl) [.tmp 2] fun w hs => ⟨_, _, [], rfl, ⟨rfl, rfl⟩, hle, hs⟩
            ·
             rw [if_neg h345] at H
             by_cases h349 : p223 ≥ 127744
             ·
              rw [if_pos h349] at H
              refine at_reg1 [(2, .bool false), (6, .bool false), (9, .bool true), (14, .bool false), (17, .bool true), (22, .bool false), (25, .bool true), (30, .bool false), (33, .bool true), (38, .bool false), (41, .bool false), (49, .bool true)] [67] [(67, .bool (decide (p223 ≤ 129791)))] [oF (p223 < 32), fun _ => (.bool (p223 == 127) : Value) = .bool false, oT (p223 ≥ 4352), oF (p223 ≤ 4447), oT (p223 ≥ 11904), oF (p223 ≤ 42191), oT (p223 ≥ 44032), oF (p223 ≤ 55203), oT (p223 ≥ 63744), oF (p223 ≤ 64255), oF (p223 ≥ 65281), oT (p223 ≥ 127744)] (fun w hs => ⟨cF (h335), congrArg Value.bool (beq_eq_false_iff_ne.2 h336), cT (h337), cF (h338), cT (h339), cF (h340), cT (h341), cF (h342), cT (h343), cF (h344), cF (h345), cT (h349)⟩) ?_
              refine at_thn ?_
              by_cases h350 : p223 ≤ 129791
              ·
               rw [if_pos h350] at H
               refine at_cond_t rfl (decide_eq_true h350) ?_
               refine at_seq (at_reg0 [] [2] [(2, iV 2)] ?_)
               refine at_thn (at_ret (at_then_ret ?_))
               obtain rfl := Option.some.inj H
               exact at_done0 [iV 2] (.inl rfl) [.tmp 2] fun w hs => ⟨_, _, [], rfl, ⟨rfl, rfl⟩, hle, hs⟩
              ·
               rw [if_neg h350] at H
               refine at_cond_f rfl (decide_eq_false h350) ?_
               refine at_skip (at_thn (at_seq (at_reg0 [] [2] [(2, iV 1)] ?_)))
               refine at_thn (at_ret ?_)
               obtain rfl := Option.some.inj H
               exact at_done0 [iV 1] (.inl rfl) [.tmp 2] fun w hs => ⟨_, _, [], rfl, ⟨rfl, rfl⟩, hle, hs⟩
             ·
              rw [if_neg h349] at H
              refine at_reg1 [(2, .bool false), (6, .bool false), (9, .bool true), (14, .bool false), (17, .bool true), (22, .bool false), (25, .bool true), (30, .bool false), (33, .bool true), (38, .bool false), (41, .bool false), (49, .bool false)] [67] [(67, .bool false)] [oF (p223 < 32), fun _ => (.bool (p223 == 127) : Value) = .bool false, oT (p223 ≥ 4352), oF (p223 ≤ 4447), oT (p223 ≥ 11904), oF (p223 ≤ 42191), oT (p223 ≥ 44032), oF (p223 ≤ 55203), oT (p223 ≥ 63744), oF (p223 ≤ 64255), oF (p223 ≥ 65281), oF (p223 ≥ 127744)] (fun w hs => ⟨cF (h335), congrArg Value.bool (beq_eq_false_iff_ne.2 h336), cT (h337), cF (h338), cT (h339), cF (h340), cT (h341), cF (h342), cT (h343), cF (h344), cF (h345), cF (h349)⟩) ?_
              refine at_thn (at_cond_f rfl (rfl) ?_)
              refine at_skip (at_thn (at_seq (at_reg0 [] [2] [(2, iV 1)] ?_)))
              refine at_thn (at_ret ?_)
              obtain rfl := Option.some.inj H
              exact at_done0 [iV 1] (.inl rfl) [.tmp 2] fun w hs => ⟨_, _, [], rfl, ⟨rfl, rfl⟩, hle, hs⟩
          ·
           rw [if_neg h343] at H
           by_cases h351 : p223 ≥ 65281
           ·
            rw [if_pos h351] at H
            by_cases h352 : p223 ≤ 65376
            ·
             rw [if_pos h352] at H
             refine at_reg1 [(2, .bool false), (6, .bool false), (9, .bool true), (14, .bool false), (17, .bool true), (22, .bool false), (25, .bool true), (30, .bool false), (33, .bool false), (41, .bool true), (46, .bool true)] [67] [(67, .bool true)] [oF (p223 < 32), fun _ => (.bool (p223 == 127) : Value) = .bool false, oT (p223 ≥ 4352), oF (p223 ≤ 4447), oT (p223 ≥ 11904), oF (p223 ≤ 42191), oT (p223 ≥ 44032), oF (p223 ≤ 55203), oF (p223 ≥ 63744), oT (p223 ≥ 65281), oT (p223 ≤ 65376)] (fun w hs => ⟨cF (h335), congrArg Value.bool (beq_eq_false_iff_ne.2 h336), cT (h337), cF (h338), cT (h339), cF (h340), cT (h341), cF (h342), cF (h343), cT (h351), cT (h352)⟩) ?_
             refine at_thn (at_cond_t rfl (rfl) ?_)
             refine at_seq (at_reg0 [] [2] [(2, iV 2)] ?_)
             refine at_thn (at_ret (at_then_ret ?_))
             obtain rfl := Option.some.inj H
             exact at_done0 [iV 2] (.inl rfl) [.tmp 2] fun w hs => ⟨_, _, [], rfl, ⟨rfl, rfl⟩, hle, hs⟩
            ·
             rw [if_neg h352] at H
             by_cases h353 : p223 ≥ 127744
             ·
              rw [if_pos h353] at H
              refine at_reg1 [(2, .bool false), (6, .bool false), (9, .bool true), (14, .bool false), (17, .bool true), (22, .bool false), (25, .bool true), (30, .bool false), (33, .bool false), (41, .bool true), (46, .bool false), (49, .bool true)] [67] [(67, .bool (decide (p223 ≤ 129791)))] [oF (p223 < 32), fun _ => (.bool (p223 == 127) : Value) = .bool false, oT (p223 ≥ 4352), oF (p223 ≤ 4447), oT (p223 ≥ 11904), oF (p223 ≤ 42191), oT (p223 ≥ 44032), oF (p223 ≤ 55203), oF (p223 ≥ 63744), oT (p223 ≥ 65281), oF (p223 ≤ 65376), oT (p223 ≥ 127744)] (fun w hs => ⟨cF (h335), congrArg Value.bool (beq_eq_false_iff_ne.2 h336), cT (h337), cF (h338), cT (h339), cF (h340), cT (h341), cF (h342), cF (h343), cT (h351), cF (h352), cT (h353)⟩) ?_
              refine at_thn ?_
              by_cases h354 : p223 ≤ 129791
              ·
               rw [if_pos h354] at H
               refine at_cond_t rfl (decide_eq_true h354) ?_
               refine at_seq (at_reg0 [] [2] [(2, iV 2)] ?_)
               refine at_thn (at_ret (at_then_ret ?_))
               obtain rfl := Option.some.inj H
               exact at_done0 [iV 2] (.inl rfl) [.tmp 2] fun w hs => ⟨_, _, [], rfl, ⟨rfl, rfl⟩, hle, hs⟩
              ·
               rw [if_neg h354] at H
               refine at_cond_f rfl (decide_eq_false h354) ?_
               refine at_skip (at_thn (at_seq (at_reg0 [] [2] [(2, iV 1)] ?_)))
               refine at_thn (at_ret ?_)
               obtain rfl := Option.some.inj H
               exact at_done0 [iV 1] (.inl rfl) [.tmp 2] fun w hs => ⟨_, _, [], rfl, ⟨rfl, rfl⟩, hle, hs⟩
             ·
              rw [if_neg h353] at H
              refine at_reg1 [(2, .bool false), (6, .bool false), (9, .bool true), (14, .bool false), (17, .bool true), (22, .bool false), (25, .bool true), (30, .bool false), (33, .bool false), (41, .bool true), (46, .bool false), (49, .bool false)] [67] [(67, .bool false)] [oF (p223 < 32), fun _ => (.bool (p223 == 127) : Value) = .bool false, oT (p223 ≥ 4352), oF (p223 ≤ 4447), oT (p223 ≥ 11904), oF (p223 ≤ 42191), oT (p223 ≥ 44032), oF (p223 ≤ 55203), oF (p223 ≥ 63744), oT (p223 ≥ 65281), oF (p223 ≤ 65376), oF (p223 ≥ 127744)] (fun w hs => ⟨cF (h335), congrArg Value.bool (beq_eq_false_iff_ne.2 h336), cT (h337), cF (h338), cT (h339), cF (h340), cT (h341), cF (h342), cF (h343), cT (h351), cF (h352), cF (h353)⟩) ?_
              refine at_thn (at_cond_f rfl (rfl) ?_)
              refine at_skip (at_thn (at_seq (at_reg0 [] [2] [(2, iV 1)] ?_)))
              refine at_thn (at_ret ?_)
              obtain rfl := Option.some.inj H
              exact at_done0 [iV 1] (.inl rfl) [.tmp 2] fun w hs => ⟨_, _, [], rfl, ⟨rfl, rfl⟩, hle, hs⟩
           ·
            rw [if_neg h351] at H
            by_cases h355 : p223 ≥ 127744
            ·
             rw [if_pos h355] at H
             refine at_reg1 [(2, .bool false), (6, .bool false), (9, .bool true), (14, .bool false), (17, .bool true), (22, .bool false), (25, .bool true), (30, .bool false), (33, .bool false), (41, .bool false), (49, .bool true)] [67] [(67, .bool (decide (p223 ≤ 129791)))] [oF (p223 < 32), fun _ => (.bool (p223 == 127) : Value) = .bool false, oT (p223 ≥ 4352), oF (p223 ≤ 4447), oT (p223 ≥ 11904), oF (p223 ≤ 42191), oT (p223 ≥ 44032), oF (p223 ≤ 55203), oF (p223 ≥ 63744), oF (p223 ≥ 65281), oT (p223 ≥ 127744)] (fun w hs => ⟨cF (h335), congrArg Value.bool (beq_eq_false_iff_ne.2 h336), cT (h337), cF (h338), cT (h339), cF (h340), cT (h341), cF (h342), cF (h343), cF (h351), cT (h355)⟩) ?_
             refine at_thn ?_
             by_cases h356 : p223 ≤ 129791
             ·
              rw [if_pos h356] at H
              refine at_cond_t rfl (decide_eq_true h356) ?_
              refine at_seq (at_reg0 [] [2] [(2, iV 2)] ?_)
              refine at_thn (at_ret (at_then_ret ?_))
              obtain rfl := Option.some.inj H
              exact at_done0 [iV 2] (.inl rfl) [.tmp 2] fun w hs => ⟨_, _, [], rfl, ⟨rfl, rfl⟩, hle, hs⟩
             ·
              rw [if_neg h356] at H
              refine at_cond_f rfl (decide_eq_false h356) ?_
              refine at_skip (at_thn (at_seq (at_reg0 [] [2] [(2, iV 1)] ?_)))
              refine at_thn (at_ret ?_)
              obtain rfl := Option.some.inj H
              exact at_done0 [iV 1] (.inl rfl) [.tmp 2] fun w hs => ⟨_, _, [], rfl, ⟨rfl, rfl⟩, hle, hs⟩
            ·
             rw [if_neg h355] at H
             refine at_reg1 [(2, .bool false), (6, .bool false), (9, .bool true), (14, .bool false), (17, .bool true), (22, .bool false), (25, .bool true), (30, .bool false), (33, .bool false), (41, .bool false), (49, .bool false)] [67] [(67, .bool false)] [oF (p223 < 32), fun _ => (.bool (p223 == 127) : Value) = .bool false, oT (p223 ≥ 4352), oF (p223 ≤ 4447), oT (p223 ≥ 11904), oF (p223 ≤ 42191), oT (p223 ≥ 44032), oF (p223 ≤ 55203), oF (p223 ≥ 63744), oF (p223 ≥ 65281), oF (p223 ≥ 127744)] (fun w hs => ⟨cF (h335), congrArg Value.bool (beq_eq_false_iff_ne.2 h336), cT (h337), cF (h338), cT (h339), cF (h340), cT (h341), cF (h342), cF (h343), cF (h351), cF (h355)⟩) ?_
             refine at_thn (at_cond_f rfl (rfl) ?_)
             refine at_skip (at_thn (at_seq (at_reg0 [] [2] [(2, iV 1)] ?_)))
             refine at_thn (at_ret ?_)
             obtain rfl := Option.some.inj H
             exact at_done0 [iV 1] (.inl rfl) [.tmp 2] fun w hs => ⟨_, _, [], rfl, ⟨rfl, rfl⟩, hle, hs⟩
        ·
         rw [if_neg h341] at H
         by_cases h357 : p223 ≥ 63744
         ·
          rw [if_pos h357] at H
          by_cases h358 : p223 ≤ 64255
          ·
           rw [if_pos h358] at H
           refine at_reg1 [(2, .bool false), (6, .bool false), (9, .bool true), (14, .bool false), (17, .bool true), (22, .bool false), (25, .bool false), (33, .bool true), (38, .bool true)] [67] [(67, .bool true)] [oF (p223 < 32), fun _ => (.bool (p223 == 127) : Value) = .bool false, oT (p223 ≥ 4352), oF (p223 ≤ 4447), oT (p223 ≥ 11904), oF (p223 ≤ 42191), oF (p223 ≥ 44032), oT (p223 ≥ 63744), oT (p223 ≤ 64255)] (fun w hs => ⟨cF (h335), congrArg Value.bool (beq_eq_false_iff_ne.2 h336), cT (h337), cF (h338), cT (h339), cF (h340), cF (h341), cT (h357), cT (h358)⟩) ?_
           refine at_thn (at_cond_t rfl (rfl) ?_)
           refine at_seq (at_reg0 [] [2] [(2, iV 2)] ?_)
           refine at_thn (at_ret (at_then_ret ?_))
           obtain rfl := Option.some.inj H
           exact at_done0 [iV 2] (.inl rfl) [.tmp 2] fun w hs => ⟨_, _, [], rfl, ⟨rfl, rfl⟩, hle, hs⟩
          ·
           rw [if_neg h358] at H
           by_cases h359 : p223 ≥ 65281
           ·
            rw [if_pos h359] at H
            by_cases h360 : p223 ≤ 65376
            ·
             rw [if_pos h360] at H
             refine at_reg1 [(2, .bool false), (6, .bool false), (9, .bool true), (14, .bool false), (17, .bool true), (22, .bool false), (25, .bool false), (33, .bool true), (38, .bool false), (41, .bool true), (46, .bool true)] [67] [(67, .bool true)] [oF (p223 < 32), fun _ => (.bool (p223 == 127) : Value) = .bool false, oT (p223 ≥ 4352), oF (p223 ≤ 4447), oT (p223 ≥ 11904), oF (p223 ≤ 42191), oF (p223 ≥ 44032), oT (p223 ≥ 63744), oF (p223 ≤ 64255), oT (p223 ≥ 65281), oT (p223 ≤ 65376)] (fun w hs => ⟨cF (h335), congrArg Value.bool (beq_eq_false_iff_ne.2 h336), cT (h337), cF (h338), cT (h339), cF (h340), cF (h341), cT (h357), cF (h358), cT (h359), cT (h360)⟩) ?_
             refine at_thn (at_cond_t rfl (rfl) ?_)
             refine at_seq (at_reg0 [] [2] [(2, iV 2)] ?_)
             refine at_thn (at_ret (at_then_ret ?_))
             obtain rfl := Option.some.inj H
             exact at_done0 [iV 2] (.inl rfl) [.tmp 2] fun w hs => ⟨_, _, [], rfl, ⟨rfl, rfl⟩, hle, hs⟩
            ·
             rw [if_neg h360] at H
             by_cases h361 : p223 ≥ 127744
             ·
              rw [if_pos h361] at H
              refine at_reg1 [(2, .bool false), (6, .bool false), (9, .bool true), (14, .bool false), (17, .bool true), (22, .bool false), (25, .bool false), (33, .bool true), (38, .bool false), (41, .bool true), (46, .bool false), (49, .bool true)] [67] [(67, .bool (decide (p223 ≤ 129791)))] [oF (p223 < 32), fun _ => (.bool (p223 == 127) : Value) = .bool false, oT (p223 ≥ 4352), oF (p223 ≤ 4447), oT (p223 ≥ 11904), oF (p223 ≤ 42191), oF (p223 ≥ 44032), oT (p223 ≥ 63744), oF (p223 ≤ 64255), oT (p223 ≥ 65281), oF (p223 ≤ 65376), oT (p223 ≥ 127744)] (fun w hs => ⟨cF (h335), congrArg Value.bool (beq_eq_false_iff_ne.2 h336), cT (h337), cF (h338), cT (h339), cF (h340), cF (h341), cT (h357), cF (h358), cT (h359), cF (h360), cT (h361)⟩) ?_
              refine at_thn ?_
              by_cases h362 : p223 ≤ 129791
              ·
               rw [if_pos h362] at H
               refine at_cond_t rfl (decide_eq_true h362) ?_
               refine at_seq (at_reg0 [] [2] [(2, iV 2)] ?_)
               refine at_thn (at_ret (at_then_ret ?_))
               obtain rfl := Option.some.inj H
               exact at_done0 [iV 2] (.inl rfl) [.tmp 2] fun w hs => ⟨_, _, [], rfl, ⟨rfl, rfl⟩, hle, hs⟩
              ·
               rw [if_neg h362] at H
               refine at_cond_f rfl (decide_eq_false h362) ?_
               refine at_skip (at_thn (at_seq (at_reg0 [] [2] [(2, iV 1)] ?_)))
               refine at_thn (at_ret ?_)
               obtain rfl := Option.some.inj H
               exact at_done0 [iV 1] (.inl rfl) [.tmp 2] fun w hs => ⟨_, _, [], rfl, ⟨rfl, rfl⟩, hle, hs⟩
             ·
              rw [if_neg h361] at H
              refine at_reg1 [(2, .bool false), (6, .bool false), (9, .bool true), (14, .bool false), (17, .bool true), (22, .bool false), (25, .bool false), (33, .bool true), (38, .bool false), (41, .bool true), (46, .bool false), (49, .bool false)] [67] [(67, .bool false)] [oF (p223 < 32), fun _ => (.bool (p223 == 127) : Value) = .bool false, oT (p223 ≥ 4352), oF (p223 ≤ 4447), oT (p223 ≥ 11904), oF (p223 ≤ 42191), oF (p223 ≥ 44032), oT (p223 ≥ 63744), oF (p223 ≤ 64255), oT (p223 ≥ 65281), oF (p223 ≤ 65376), oF (p223 ≥ 127744)] (fun w hs => ⟨cF (h335), congrArg Value.bool (beq_eq_false_iff_ne.2 h336), cT (h337), cF (h338), cT (h339), cF (h340), cF (h341), cT (h357), cF (h358), cT (h359), cF (h360), cF (h361)⟩) ?_
              refine at_thn (at_cond_f rfl (rfl) ?_)
              refine at_skip (at_thn (at_seq (at_reg0 [] [2] [(2, iV 1)] ?_)))
              refine at_thn (at_ret ?_)
              obtain rfl := Option.some.inj H
              exact at_done0 [iV 1] (.inl rfl) [.tmp 2] fun w hs => ⟨_, _, [], rfl, ⟨rfl, rfl⟩, hle, hs⟩
           ·
            rw [if_neg h359] at H
            by_cases h363 : p223 ≥ 127744
            ·
             rw [if_pos h363] at H
             refine at_reg1 [(2, .bool false), (6, .bool false), (9, .bool true), (14, .bool false), (17, .bool true), (22, .bool false), (25, .bool false), (33, .bool true), (38, .bool false), (41, .bool false), (49, .bool true)] [67] [(67, .bool (decide (p223 ≤ 129791)))] [oF (p223 < 32), fun _ => (.bool (p223 == 127) : Value) = .bool false, oT (p223 ≥ 4352), oF (p223 ≤ 4447), oT (p223 ≥ 11904), oF (p223 ≤ 42191), oF (p223 ≥ 44032), oT (p223 ≥ 63744), oF (p223 ≤ 64255), oF (p223 ≥ 65281), oT (p223 ≥ 127744)] (fun w hs => ⟨cF (h335), congrArg Value.bool (beq_eq_false_iff_ne.2 h336), cT (h337), cF (h338), cT (h339), cF (h340), cF (h341), cT (h357), cF (h358), cF (h359), cT (h363)⟩) ?_
             refine at_thn ?_
             by_cases h364 : p223 ≤ 129791
             ·
              rw [if_pos h364] at H
              refine at_cond_t rfl (decide_eq_true h364) ?_
              refine at_seq (at_reg0 [] [2] [(2, iV 2)] ?_)
              refine at_thn (at_ret (at_then_ret ?_))
              obtain rfl := Option.some.inj H
              exact at_done0 [iV 2] (.inl rfl) [.tmp 2] fun w hs => ⟨_, _, [], rfl, ⟨rfl, rfl⟩, hle, hs⟩
             ·
              rw [if_neg h364] at H
              refine at_cond_f rfl (decide_eq_false h364) ?_
              refine at_skip (at_thn (at_seq (at_reg0 [] [2] [(2, iV 1)] ?_)))
              refine at_thn (at_ret ?_)
              obtain rfl := Option.some.inj H
              exact at_done0 [iV 1] (.inl rfl) [.tmp 2] fun w hs => ⟨_, _, [], rfl, ⟨rfl, rfl⟩, hle, hs⟩
            ·
             rw [if_neg h363] at H
             refine at_reg1 [(2, .bool false), (6, .bool false), (9, .bool true), (14, .bool false), (17, .bool true), (22, .bool false), (25, .bool false), (33, .bool true), (38, .bool false), (41, .bool false), (49, .bool false)] [67] [(67, .bool false)] [oF (p223 < 32), fun _ => (.bool (p223 == 127) : Value) = .bool false, oT (p223 ≥ 4352), oF (p223 ≤ 4447), oT (p223 ≥ 11904), oF (p223 ≤ 42191), oF (p223 ≥ 44032), oT (p223 ≥ 63744), oF (p223 ≤ 64255), oF (p223 ≥ 65281), oF (p223 ≥ 127744)] (fun w hs => ⟨cF (h335), congrArg Value.bool (beq_eq_false_iff_ne.2 h336), cT (h337), cF (h338), cT (h339), cF (h340), cF (h341), cT (h357), cF (h358), cF (h359), cF (h363)⟩) ?_
             refine at_thn (at_cond_f rfl (rfl) ?_)
             refine at_skip (at_thn (at_seq (at_reg0 [] [2] [(2, iV 1)] ?_)))
             refine at_thn (at_ret ?_)
             obtain rfl := Option.some.inj H
             exact at_done0 [iV 1] (.inl rfl) [.tmp 2] fun w hs => ⟨_, _, [], rfl, ⟨rfl, rfl⟩, hle, hs⟩
         ·
          rw [if_neg h357] at H
          by_cases h365 : p223 ≥ 65281
          ·
           rw [if_pos h365] at H
           by_cases h366 : p223 ≤ 65376
           ·
            rw [if_pos h366] at H
            refine at_reg1 [(2, .bool false), (6, .bool false), (9, .bool true), (14, .bool false), (17, .bool true), (22, .bool false), (25, .bool false), (33, .bool false), (41, .bool true), (46, .bool true)] [67] [(67, .bool true)] [oF (p223 < 32), fun _ => (.bool (p223 == 127) : Value) = .bool false, oT (p223 ≥ 4352), oF (p223 ≤ 4447), oT (p223 ≥ 11904), oF (p223 ≤ 42191), oF (p223 ≥ 44032), oF (p223 ≥ 63744), oT (p223 ≥ 65281), oT (p223 ≤ 65376)] (fun w hs => ⟨cF (h335), congrArg Value.bool (beq_eq_false_iff_ne.2 h336), cT (h337), cF (h338), cT (h339), cF (h340), cF (h341), cF (h357), cT (h365), cT (h366)⟩) ?_
            refine at_thn (at_cond_t rfl (rfl) ?_)
            refine at_seq (at_reg0 [] [2] [(2, iV 2)] ?_)
            refine at_thn (at_ret (at_then_ret ?_))
            obtain rfl := Option.some.inj H
            exact at_done0 [iV 2] (.inl rfl) [.tmp 2] fun w hs => ⟨_, _, [], rfl, ⟨rfl, rfl⟩, hle, hs⟩
           ·
            rw [if_neg h366] at H
            by_cases h367 : p223 ≥ 127744
            ·
             rw [if_pos h367] at H
             refine at_reg1 [(2, .bool false), (6, .bool false), (9, .bool true), (14, .bool false), (17, .bool true), (22, .bool false), (25, .bool false), (33, .bool false), (41, .bool true), (46, .bool false), (49, .bool true)] [67] [(67, .bool (decide (p223 ≤ 129791)))] [oF (p223 < 32), fun _ => (.bool (p223 == 127) : Value) = .bool false, oT (p223 ≥ 4352), oF (p223 ≤ 4447), oT (p223 ≥ 11904), oF (p223 ≤ 42191), oF (p223 ≥ 44032), oF (p223 ≥ 63744), oT (p223 ≥ 65281), oF (p223 ≤ 65376), oT (p223 ≥ 127744)] (fun w hs => ⟨cF (h335), congrArg Value.bool (beq_eq_false_iff_ne.2 h336), cT (h337), cF (h338), cT (h339), cF (h340), cF (h341), cF (h357), cT (h365), cF (h366), cT (h367)⟩) ?_
             refine at_thn ?_
             by_cases h368 : p223 ≤ 129791
             ·
              rw [if_pos h368] at H
              refine at_cond_t rfl (decide_eq_true h368) ?_
              refine at_seq (at_reg0 [] [2] [(2, iV 2)] ?_)
              refine at_thn (at_ret (at_then_ret ?_))
              obtain rfl := Option.some.inj H
              exact at_done0 [iV 2] (.inl rfl) [.tmp 2] fun w hs => ⟨_, _, [], rfl, ⟨rfl, rfl⟩, hle, hs⟩
             ·
              rw [if_neg h368] at H
              refine at_cond_f rfl (decide_eq_false h368) ?_
              refine at_skip (at_thn (at_seq (at_reg0 [] [2] [(2, iV 1)] ?_)))
              refine at_thn (at_ret ?_)
              obtain rfl := Option.some.inj H
              exact at_done0 [iV 1] (.inl rfl) [.tmp 2] fun w hs => ⟨_, _, [], rfl, ⟨rfl, rfl⟩, hle, hs⟩
            ·
             rw [if_neg h367] at H
             refine at_reg1 [(2, .bool false), (6, .bool false), (9, .bool true), (14, .bool false), (17, .bool true), (22, .bool false), (25, .bool false), (33, .bool false), (41, .bool true), (46, .bool false), (49, .bool false)] [67] [(67, .bool false)] [oF (p223 < 32), fun _ => (.bool (p223 == 127) : Value) = .bool false, oT (p223 ≥ 4352), oF (p223 ≤ 4447), oT (p223 ≥ 11904), oF (p223 ≤ 42191), oF (p223 ≥ 44032), oF (p223 ≥ 63744), oT (p223 ≥ 65281), oF (p223 ≤ 65376), oF (p223 ≥ 127744)] (fun w hs => ⟨cF (h335), congrArg Value.bool (beq_eq_false_iff_ne.2 h336), cT (h337), cF (h338), cT (h339), cF (h340), cF (h341), cF (h357), cT (h365), cF (h366), cF (h367)⟩) ?_
             refine at_thn (at_cond_f rfl (rfl) ?_)
             refine at_skip (at_thn (at_seq (at_reg0 [] [2] [(2, iV 1)] ?_)))
             refine at_thn (at_ret ?_)
             obtain rfl := Option.some.inj H
             exact at_done0 [iV 1] (.inl rfl) [.tmp 2] fun w hs => ⟨_, _, [], rfl, ⟨rfl, rfl⟩, hle, hs⟩
          ·
           rw [if_neg h365] at H
           by_cases h369 : p223 ≥ 127744
           ·
            rw [if_pos h369] at H
            refine at_reg1 [(2, .bool false), (6, .bool false), (9, .bool true), (14, .bool false), (17, .bool true), (22, .bool false), (25, .bool false), (33, .bool false), (41, .bool false), (49, .bool true)] [67] [(67, .bool (decide (p223 ≤ 129791)))] [oF (p223 < 32), fun _ => (.bool (p223 == 127) : Value) = .bool false, oT (p223 ≥ 4352), oF (p223 ≤ 4447), oT (p223 ≥ 11904), oF (p223 ≤ 42191), oF (p223 ≥ 44032), oF (p223 ≥ 63744), oF (p223 ≥ 65281), oT (p223 ≥ 127744)] (fun w hs => ⟨cF (h335), congrArg Value.bool (beq_eq_false_iff_ne.2 h336), cT (h337), cF (h338), cT (h339), cF (h340), cF (h341), cF (h357), cF (h365), cT (h369)⟩) ?_
            refine at_thn ?_
            by_cases h370 : p223 ≤ 129791
            ·
             rw [if_pos h370] at H
             refine at_cond_t rfl (decide_eq_true h370) ?_
             refine at_seq (at_reg0 [] [2] [(2, iV 2)] ?_)
             refine at_thn (at_ret (at_then_ret ?_))
             obtain rfl := Option.some.inj H
             exact at_done0 [iV 2] (.inl rfl) [.tmp 2] fun w hs => ⟨_, _, [], rfl, ⟨rfl, rfl⟩, hle, hs⟩
            ·
             rw [if_neg h370] at H
             refine at_cond_f rfl (decide_eq_false h370) ?_
             refine at_skip (at_thn (at_seq (at_reg0 [] [2] [(2, iV 1)] ?_)))
             refine at_thn (at_ret ?_)
             obtain rfl := Option.some.inj H
             exact at_done0 [iV 1] (.inl rfl) [.tmp 2] fun w hs => ⟨_, _, [], rfl, ⟨rfl, rfl⟩, hle, hs⟩
           ·
            rw [if_neg h369] at H
            refine at_reg1 [(2, .bool false), (6, .bool false), (9, .bool true), (14, .bool false), (17, .bool true), (22, .bool false), (25, .bool false), (33, .bool false), (41, .bool false), (49, .bool false)] [67] [(67, .bool false)] [oF (p223 < 32), fun _ => (.bool (p223 == 127) : Value) = .bool false, oT (p223 ≥ 4352), oF (p223 ≤ 4447), oT (p223 ≥ 11904), oF (p223 ≤ 42191), oF (p223 ≥ 44032), oF (p223 ≥ 63744), oF (p223 ≥ 65281), oF (p223 ≥ 127744)] (fun w hs => ⟨cF (h335), congrArg Value.bool (beq_eq_false_iff_ne.2 h336), cT (h337), cF (h338), cT (h339), cF (h340), cF (h341), cF (h357), cF (h365), cF (h369)⟩) ?_
            refine at_thn (at_cond_f rfl (rfl) ?_)
            refine at_skip (at_thn (at_seq (at_reg0 [] [2] [(2, iV 1)] ?_)))
            refine at_thn (at_ret ?_)
            obtain rfl := Option.some.inj H
            exact at_done0 [iV 1] (.inl rfl) [.tmp 2] fun w hs => ⟨_, _, [], rfl, ⟨rfl, rfl⟩, hle, hs⟩
      ·
       rw [if_neg h339] at H
       by_cases h371 : p223 ≥ 44032
       ·
        rw [if_pos h371] at H
        by_cases h372 : p223 ≤ 55203
        ·
         rw [if_pos h372] at H
         refine at_reg1 [(2, .bool false), (6, .bool false), (9, .bool true), (14, .bool false), (17, .bool false), (25, .bool true), (30, .bool true)] [67] [(67, .bool true)] [oF (p223 < 32), fun _ => (.bool (p223 == 127) : Value) = .bool false, oT (p223 ≥ 4352), oF (p223 ≤ 4447), oF (p223 ≥ 11904), oT (p223 ≥ 44032), oT (p223 ≤ 55203)] (fun w hs => ⟨cF (h335), congrArg Value.bool (beq_eq_false_iff_ne.2 h336), cT (h337), cF (h338), cF (h339), cT (h371), cT (h372)⟩) ?_
         refine at_thn (at_cond_t rfl (rfl) ?_)
         refine at_seq (at_reg0 [] [2] [(2, iV 2)] ?_)
         refine at_thn (at_ret (at_then_ret ?_))
         obtain rfl := Option.some.inj H
         exact at_done0 [iV 2] (.inl rfl) [.tmp 2] fun w hs => ⟨_, _, [], rfl, ⟨rfl, rfl⟩, hle, hs⟩
        ·
         rw [if_neg h372] at H
         by_cases h373 : p223 ≥ 63744
         ·
          rw [if_pos h373] at H
          by_cases h374 : p223 ≤ 64255
          ·
           rw [if_pos h374] at H
           refine at_reg1 [(2, .bool false), (6, .bool false), (9, .bool true), (14, .bool false), (17, .bool false), (25, .bool true), (30, .bool false), (33, .bool true), (38, .bool true)] [67] [(67, .bool true)] [oF (p223 < 32), fun _ => (.bool (p223 == 127) : Value) = .bool false, oT (p223 ≥ 4352), oF (p223 ≤ 4447), oF (p223 ≥ 11904), oT (p223 ≥ 44032), oF (p223 ≤ 55203), oT (p223 ≥ 63744), oT (p223 ≤ 64255)] (fun w hs => ⟨cF (h335), congrArg Value.bool (beq_eq_false_iff_ne.2 h336), cT (h337), cF (h338), cF (h339), cT (h371), cF (h372), cT (h373), cT (h374)⟩) ?_
           refine at_thn (at_cond_t rfl (rfl) ?_)
           refine at_seq (at_reg0 [] [2] [(2, iV 2)] ?_)
           refine at_thn (at_ret (at_then_ret ?_))
           obtain rfl := Option.some.inj H
           exact at_done0 [iV 2] (.inl rfl) [.tmp 2] fun w hs => ⟨_, _, [], rfl, ⟨rfl, rfl⟩, hle, hs⟩
          ·
           rw [if_neg h374] at H
           by_cases h375 : p223 ≥ 65281
           ·
            rw [if_pos h375] at H
            by_cases h376 : p223 ≤ 65376
            ·
             rw [if_pos h376] at H
             refine at_reg1 [(2, .bool false), (6, .bool false), (9, .bool true), (14, .bool false), (17, .bool false), (25, .bool true), (30, .bool false), (33, .bool true), (38, .bool false), (41, .bool true), (46, .bool true)] [67] [(67, .bool true)] [oF (p223 < 32), fun _ => (.bool (p223 == 127) : Value) = .bool false, oT (p223 ≥ 4352), oF (p223 ≤ 4447), oF (p223 ≥ 11904), oT (p223 ≥ 44032), oF (p223 ≤ 55203), oT (p223 ≥ 63744), oF (p223 ≤ 64255), oT (p223 ≥ 65281), oT (p223 ≤ 65376)] (fun w hs => ⟨cF (h335), congrArg Value.bool (beq_eq_false_iff_ne.2 h336), cT (h337), cF (h338), cF (h339), cT (h371), cF (h372), cT (h373), cF (h374), cT (h375), cT (h376)⟩) ?_
             refine at_thn (at_cond_t rfl (rfl) ?_)
             refine at_seq (at_reg0 [] [2] [(2, iV 2)] ?_)
             refine at_thn (at_ret (at_then_ret ?_))
             obtain rfl := Option.some.inj H
             exact at_done0 [iV 2] (.inl rfl) [.tmp 2] fun w hs => ⟨_, _, [], rfl, ⟨rfl, rfl⟩, hle, hs⟩
            ·
             rw [if_neg h376] at H
             by_cases h377 : p223 ≥ 127744
             ·
              rw [if_pos h377] at H
              refine at_reg1 [(2, .bool false), (6, .bool false), (9, .bool true), (14, .bool false), (17, .bool false), (25, .bool true), (30, .bool false), (33, .bool true), (38, .bool false), (41, .bool true), (46, .bool false), (49, .bool true)] [67] [(67, .bool (decide (p223 ≤ 129791)))] [oF (p223 < 32), fun _ => (.bool (p223 == 127) : Value) = .bool false, oT (p223 ≥ 4352), oF (p223 ≤ 4447), oF (p223 ≥ 11904), oT (p223 ≥ 44032), oF (p223 ≤ 55203), oT (p223 ≥ 63744), oF (p223 ≤ 64255), oT (p223 ≥ 65281), oF (p223 ≤ 65376), oT (p223 ≥ 127744)] (fun w hs => ⟨cF (h335), congrArg Value.bool (beq_eq_false_iff_ne.2 h336), cT (h337), cF (h338), cF (h339), cT (h371), cF (h372), cT (h373), cF (h374), cT (h375), cF (h376), cT (h377)⟩) ?_
              refine at_thn ?_
              by_cases h378 : p223 ≤ 129791
              ·
               rw [if_pos h378] at H
               refine at_cond_t rfl (decide_eq_true h378) ?_
               refine at_seq (at_reg0 [] [2] [(2, iV 2)] ?_)
               refine at_thn (at_ret (at_then_ret ?_))
               obtain rfl := Option.some.inj H
               exact at_done0 [iV 2] (.inl rfl) [.tmp 2] fun w hs => ⟨_, _, [], rfl, ⟨rfl, rfl⟩, hle, hs⟩
              ·
               rw [if_neg h378] at H
               refine at_cond_f rfl (decide_eq_false h378) ?_
               refine at_skip (at_thn (at_seq (at_reg0 [] [2] [(2, iV 1)] ?_)))
               refine at_thn (at_ret ?_)
               obtain rfl := Option.some.inj H
               exact at_done0 [iV 1] (.inl rfl) [.tmp 2] fun w hs => ⟨_, _, [], rfl, ⟨rfl, rfl⟩, hle, hs⟩
             ·
              rw [if_neg h377] at H
              refine at_reg1 [(2, .bool false), (6, .bool false), (9, .bool true), (14, .bool false), (17, .bool false), (25, .bool true), (30, .bool false), (33, .bool true), (38, .bool false), (41, .bool true), (46, .bool false), (49, .bool false)] [67] [(67, .bool false)] [oF (p223 < 32), fun _ => (.bool (p223 == 127) : Value) = .bool false, oT (p223 ≥ 4352), oF (p223 ≤ 4447), oF (p223 ≥ 11904), oT (p223 ≥ 44032), oF (p223 ≤ 55203), oT (p223 ≥ 63744), oF (p223 ≤ 64255), oT (p223 ≥ 65281), oF (p223 ≤ 65376), oF (p223 ≥ 127744)] (fun w hs => ⟨cF (h335), congrArg Value.bool (beq_eq_false_iff_ne.2 h336), cT (h337), cF (h338), cF (h339), cT (h371), cF (h372), cT (h373), cF (h374), cT (h375), cF (h376), cF (h377)⟩) ?_
              refine at_thn (at_cond_f rfl (rfl) ?_)
              refine at_skip (at_thn (at_seq (at_reg0 [] [2] [(2, iV 1)] ?_)))
              refine at_thn (at_ret ?_)
              obtain rfl := Option.some.inj H
              exact at_done0 [iV 1] (.inl rfl) [.tmp 2] fun w hs => ⟨_, _, [], rfl, ⟨rfl, rfl⟩, hle, hs⟩
           ·
            rw [if_neg h375] at H
            by_cases h379 : p223 ≥ 127744
            ·
             rw [if_pos h379] at H
             refine at_reg1 [(2, .bool false), (6, .bool false), (9, .bool true), (14, .bool false), (17, .bool false), (25, .bool true), (30, .bool false), (33, .bool true), (38, .bool false), (41, .bool false), (49, .bool true)] [67] [(67, .bool (decide (p223 ≤ 129791)))] [oF (p223 < 32), fun _ => (.bool (p223 == 127) : Value) = .bool false, oT (p223 ≥ 4352), oF (p223 ≤ 4447), oF (p223 ≥ 11904), oT (p223 ≥ 44032), oF (p223 ≤ 55203), oT (p223 ≥ 63744), oF (p223 ≤ 64255), oF (p223 ≥ 65281), oT (p223 ≥ 127744)] (fun w hs => ⟨cF (h335), congrArg Value.bool (beq_eq_false_iff_ne.2 h336), cT (h337), cF (h338), cF (h339), cT (h371), cF (h372), cT (h373), cF (h374), cF (h375), cT (h379)⟩) ?_
             refine at_thn ?_
             by_cases h380 : p223 ≤ 129791
             ·
              rw [if_pos h380] at H
              refine at_cond_t rfl (decide_eq_true h380) ?_
              refine at_seq (at_reg0 [] [2] [(2, iV 2)] ?_)
              refine at_thn (at_ret (at_then_ret ?_))
              obtain rfl := Option.some.inj H
              exact at_done0 [iV 2] (.inl rfl) [.tmp 2] fun w hs => ⟨_, _, [], rfl, ⟨rfl, rfl⟩, hle, hs⟩
             ·
              rw [if_neg h380] at H
              refine at_cond_f rfl (decide_eq_false h380) ?_
              refine at_skip (at_thn (at_seq (at_reg0 [] [2] [(2, iV 1)] ?_)))
              refine at_thn (at_ret ?_)
              obtain rfl := Option.some.inj H
              exact at_done0 [iV 1] (.inl rfl) [.tmp 2] fun w hs => ⟨_, _, [], rfl, ⟨rfl, rfl⟩, hle, hs⟩
            ·
             rw [if_neg h379] at H
             refine at_reg1 [(2, .bool false), (6, .bool false), (9, .bool true), (14, .bool false), (17, .bool false), (25, .bool true), (30, .bool false), (33, .bool true), (38, .bool false), (41, .bool false), (49, .bool false)] [67] [(67, .bool false)] [oF (p223 < 32), fun _ => (.bool (p223 == 127) : Value) = .bool false, oT (p223 ≥ 4352), oF (p223 ≤ 4447), oF (p223 ≥ 11904), oT (p223 ≥ 44032), oF (p223 ≤ 55203), oT (p223 ≥ 63744), oF (p223 ≤ 64255), oF (p223 ≥ 65281), oF (p223 ≥ 127744)] (fun w hs => ⟨cF (h335), congrArg Value.bool (beq_eq_false_iff_ne.2 h336), cT (h337), cF (h338), cF (h339), cT (h371), cF (h372), cT (h373), cF (h374), cF (h375), cF (h379)⟩) ?_
             refine at_thn (at_cond_f rfl (rfl) ?_)
             refine at_skip (at_thn (at_seq (at_reg0 [] [2] [(2, iV 1)] ?_)))
             refine at_thn (at_ret ?_)
             obtain rfl := Option.some.inj H
             exact at_done0 [iV 1] (.inl rfl) [.tmp 2] fun w hs => ⟨_, _, [], rfl, ⟨rfl, rfl⟩, hle, hs⟩
         ·
          rw [if_neg h373] at H
          by_cases h381 : p223 ≥ 65281
          ·
           rw [if_pos h381] at H
           by_cases h382 : p223 ≤ 65376
           ·
            rw [if_pos h382] at H
            refine at_reg1 [(2, .bool false), (6, .bool false), (9, .bool true), (14, .bool false), (17, .bool false), (25, .bool true), (30, .bool false), (33, .bool false), (41, .bool true), (46, .bool true)] [67] [(67, .bool true)] [oF (p223 < 32), fun _ => (.bool (p223 == 127) : Value) = .bool false, oT (p223 ≥ 4352), oF (p223 ≤ 4447), oF (p223 ≥ 11904), oT (p223 ≥ 44032), oF (p223 ≤ 55203), oF (p223 ≥ 63744), oT (p223 ≥ 65281), oT (p223 ≤ 65376)] (fun w hs => ⟨cF (h335), congrArg Value.bool (beq_eq_false_iff_ne.2 h336), cT (h337), cF (h338), cF (h339), cT (h371), cF (h372), cF (h373), cT (h381), cT (h382)⟩) ?_
            refine at_thn (at_cond_t rfl (rfl) ?_)
            refine at_seq (at_reg0 [] [2] [(2, iV 2)] ?_)
            refine at_thn (at_ret (at_then_ret ?_))
            obtain rfl := Option.some.inj H
            exact at_done0 [iV 2] (.inl rfl) [.tmp 2] fun w hs => ⟨_, _, [], rfl, ⟨rfl, rfl⟩, hle, hs⟩
           ·
            rw [if_neg h382] at H
            by_cases h383 : p223 ≥ 127744
            ·
             rw [if_pos h383] at H
             refine at_reg1 [(2, .bool false), (6, .bool false), (9, .bool true), (14, .bool false), (17, .bool false), (25, .bool true), (30, .bool false), (33, .bool false), (41, .bool true), (46, .bool false), (49, .bool true)] [67] [(67, .bool (decide (p223 ≤ 129791)))] [oF (p223 < 32), fun _ => (.bool (p223 == 127) : Value) = .bool false, oT (p223 ≥ 4352), oF (p223 ≤ 4447), oF (p223 ≥ 11904), oT (p223 ≥ 44032), oF (p223 ≤ 55203), oF (p223 ≥ 63744), oT (p223 ≥ 65281), oF (p223 ≤ 65376), oT (p223 ≥ 127744)] (fun w hs => ⟨cF (h335), congrArg Value.bool (beq_eq_false_iff_ne.2 h336), cT (h337), cF (h338), cF (h339), cT (h371), cF (h372), cF (h373), cT (h381), cF (h382), cT (h383)⟩) ?_
             refine at_thn ?_
             by_cases h384 : p223 ≤ 129791
             ·
              rw [if_pos h384] at H
              refine at_cond_t rfl (decide_eq_true h384) ?_
              refine at_seq (at_reg0 [] [2] [(2, iV 2)] ?_)
              refine at_thn (at_ret (at_then_ret ?_))
              obtain rfl := Option.some.inj H
              exact at_done0 [iV 2] (.inl rfl) [.tmp 2] fun w hs => ⟨_, _, [], rfl, ⟨rfl, rfl⟩, hle, hs⟩
             ·
              rw [if_neg h384] at H
              refine at_cond_f rfl (decide_eq_false h384) ?_
              refine at_skip (at_thn (at_seq (at_reg0 [] [2] [(2, iV 1)] ?_)))
              refine at_thn (at_ret ?_)
              obtain rfl := Option.some.inj H
              exact at_done0 [iV 1] (.inl rfl) [.tmp 2] fun w hs => ⟨_, _, [], rfl, ⟨rfl, rfl⟩, hle, hs⟩
            ·
             rw [if_neg h383] at H
             refine at_reg1 [(2, .bool false), (6, .bool false), (9, .bool true), (14, .bool false), (17, .bool false), (25, .bool true), (30, .bool false), (33, .bool false), (41, .bool true), (46, .bool false), (49, .bool false)] [67] [(67, .bool false)] [oF (p223 < 32), fun _ => (.bool (p223 == 127) : Value) = .bool false, oT (p223 ≥ 4352), oF (p223 ≤ 4447), oF (p223 ≥ 11904), oT (p223 ≥ 44032), oF (p223 ≤ 55203), oF (p223 ≥ 63744), oT (p223 ≥ 65281), oF (p223 ≤ 65376), oF (p223 ≥ 127744)] (fun w hs => ⟨cF (h335), congrArg Value.bool (beq_eq_false_iff_ne.2 h336), cT (h337), cF (h338), cF (h339), cT (h371), cF (h372), cF (h373), cT (h381), cF (h382), cF (h383)⟩) ?_
             refine at_thn (at_cond_f rfl (rfl) ?_)
             refine at_skip (at_thn (at_seq (at_reg0 [] [2] [(2, iV 1)] ?_)))
             refine at_thn (at_ret ?_)
             obtain rfl := Option.some.inj H
             exact at_done0 [iV 1] (.inl rfl) [.tmp 2] fun w hs => ⟨_, _, [], rfl, ⟨rfl, rfl⟩, hle, hs⟩
          ·
           rw [if_neg h381] at H
           by_cases h385 : p223 ≥ 127744
           ·
            rw [if_pos h385] at H
            refine at_reg1 [(2, .bool false), (6, .bool false), (9, .bool true), (14, .bool false), (17, .bool false), (25, .bool true), (30, .bool false), (33, .bool false), (41, .bool false), (49, .bool true)] [67] [(67, .bool (decide (p223 ≤ 129791)))] [oF (p223 < 32), fun _ => (.bool (p223 == 127) : Value) = .bool false, oT (p223 ≥ 4352), oF (p223 ≤ 4447), oF (p223 ≥ 11904), oT (p223 ≥ 44032), oF (p223 ≤ 55203), oF (p223 ≥ 63744), oF (p223 ≥ 65281), oT (p223 ≥ 127744)] (fun w hs => ⟨cF (h335), congrArg Value.bool (beq_eq_false_iff_ne.2 h336), cT (h337), cF (h338), cF (h339), cT (h371), cF (h372), cF (h373), cF (h381), cT (h385)⟩) ?_
            refine at_thn ?_
            by_cases h386 : p223 ≤ 129791
            ·
             rw [if_pos h386] at H
             refine at_cond_t rfl (decide_eq_true h386) ?_
             refine at_seq (at_reg0 [] [2] [(2, iV 2)] ?_)
             refine at_thn (at_ret (at_then_ret ?_))
             obtain rfl := Option.some.inj H
             exact at_done0 [iV 2] (.inl rfl) [.tmp 2] fun w hs => ⟨_, _, [], rfl, ⟨rfl, rfl⟩, hle, hs⟩
            ·
             rw [if_neg h386] at H
             refine at_cond_f rfl (decide_eq_false h386) ?_
             refine at_skip (at_thn (at_seq (at_reg0 [] [2] [(2, iV 1)] ?_)))
             refine at_thn (at_ret ?_)
             obtain rfl := Option.some.inj H
             exact at_done0 [iV 1] (.inl rfl) [.tmp 2] fun w hs => ⟨_, _, [], rfl, ⟨rfl, rfl⟩, hle, hs⟩
           ·
            rw [if_neg h385] at H
            refine at_reg1 [(2, .bool false), (6, .bool false), (9, .bool true), (14, .bool false), (17, .bool false), (25, .bool true), (30, .bool false), (33, .bool false), (41, .bool false), (49, .bool false)] [67] [(67, .bool false)] [oF (p223 < 32), fun _ => (.bool (p223 == 127) : Value) = .bool false, oT (p223 ≥ 4352), oF (p223 ≤ 4447), oF (p223 ≥ 11904), oT (p223 ≥ 44032), oF (p223 ≤ 55203), oF (p223 ≥ 63744), oF (p223 ≥ 65281), oF (p223 ≥ 127744)] (fun w hs => ⟨cF (h335), congrArg Value.bool (beq_eq_false_iff_ne.2 h336), cT (h337), cF (h338), cF (h339), cT (h371), cF (h372), cF (h373), cF (h381), cF (h385)⟩) ?_
            refine at_thn (at_cond_f rfl (rfl) ?_)
            refine at_skip (at_thn (at_seq (at_reg0 [] [2] [(2, iV 1)] ?_)))
            refine at_thn (at_ret ?_)
            obtain rfl := Option.some.inj H
            exact at_done0 [iV 1] (.inl rfl) [.tmp 2] fun w hs => ⟨_, _, [], rfl, ⟨rfl, rfl⟩, hle, hs⟩
       ·
        rw [if_neg h371] at H
        by_cases h387 : p223 ≥ 63744
        ·
         rw [if_pos h387] at H
         by_cases h388 : p223 ≤ 64255
         ·
          rw [if_pos h388] at H
          refine at_reg1 [(2, .bool false), (6, .bool false), (9, .bool true), (14, .bool false), (17, .bool false), (25, .bool false), (33, .bool true), (38, .bool true)] [67] [(67, .bool true)] [oF (p223 < 32), fun _ => (.bool (p223 == 127) : Value) = .bool false, oT (p223 ≥ 4352), oF (p223 ≤ 4447), oF (p223 ≥ 11904), oF (p223 ≥ 44032), oT (p223 ≥ 63744), oT (p223 ≤ 64255)] (fun w hs => ⟨cF (h335), congrArg Value.bool (beq_eq_false_iff_ne.2 h336), cT (h337), cF (h338), cF (h339), cF (h371), cT (h387), cT (h388)⟩) ?_
          refine at_thn (at_cond_t rfl (rfl) ?_)
          refine at_seq (at_reg0 [] [2] [(2, iV 2)] ?_)
          refine at_thn (at_ret (at_then_ret ?_))
          obtain rfl := Option.some.inj H
          exact at_done0 [iV 2] (.inl rfl) [.tmp 2] fun w hs => ⟨_, _, [], rfl, ⟨rfl, rfl⟩, hle, hs⟩
         ·
          rw [if_neg h388] at H
          by_cases h389 : p223 ≥ 65281
          ·
           rw [if_pos h389] at H
           by_cases h390 : p223 ≤ 65376
           ·
            rw [if_pos h390] at H
            refine at_reg1 [(2, .bool false), (6, .bool false), (9, .bool true), (14, .bool false), (17, .bool false), (25, .bool false), (33, .bool true), (38, .bool false), (41, .bool true), (46, .bool true)] [67] [(67, .bool true)] [oF (p223 < 32), fun _ => (.bool (p223 == 127) : Value) = .bool false, oT (p223 ≥ 4352), oF (p223 ≤ 4447), oF (p223 ≥ 11904), oF (p223 ≥ 44032), oT (p223 ≥ 63744), oF (p223 ≤ 64255), oT (p223 ≥ 65281), oT (p223 ≤ 65376)] (fun w hs => ⟨cF (h335), congrArg Value.bool (beq_eq_false_iff_ne.2 h336), cT (h337), cF (h338), cF (h339), cF (h371), cT (h387), cF (h388), cT (h389), cT (h390)⟩) ?_
            refine at_thn (at_cond_t rfl (rfl) ?_)
            refine at_seq (at_reg0 [] [2] [(2, iV 2)] ?_)
            refine at_thn (at_ret (at_then_ret ?_))
            obtain rfl := Option.some.inj H
            exact at_done0 [iV 2] (.inl rfl) [.tmp 2] fun w hs => ⟨_, _, [], rfl, ⟨rfl, rfl⟩, hle, hs⟩
           ·
            rw [if_neg h390] at H
            by_cases h391 : p223 ≥ 127744
            ·
             rw [if_pos h391] at H
             refine at_reg1 [(2, .bool false), (6, .bool false), (9, .bool true), (14, .bool false), (17, .bool false), (25, .bool false), (33, .bool true), (38, .bool false), (41, .bool true), (46, .bool false), (49, .bool true)] [67] [(67, .bool (decide (p223 ≤ 129791)))] [oF (p223 < 32), fun _ => (.bool (p223 == 127) : Value) = .bool false, oT (p223 ≥ 4352), oF (p223 ≤ 4447), oF (p223 ≥ 11904), oF (p223 ≥ 44032), oT (p223 ≥ 63744), oF (p223 ≤ 64255), oT (p223 ≥ 65281), oF (p223 ≤ 65376), oT (p223 ≥ 127744)] (fun w hs => ⟨cF (h335), congrArg Value.bool (beq_eq_false_iff_ne.2 h336), cT (h337), cF (h338), cF (h339), cF (h371), cT (h387), cF (h388), cT (h389), cF (h390), cT (h391)⟩) ?_
             refine at_thn ?_
             by_cases h392 : p223 ≤ 129791
             ·
              rw [if_pos h392] at H
              refine at_cond_t rfl (decide_eq_true h392) ?_
              refine at_seq (at_reg0 [] [2] [(2, iV 2)] ?_)
              refine at_thn (at_ret (at_then_ret ?_))
              obtain rfl := Option.some.inj H
              exact at_done0 [iV 2] (.inl rfl) [.tmp 2] fun w hs => ⟨_, _, [], rfl, ⟨rfl, rfl⟩, hle, hs⟩
             ·
              rw [if_neg h392] at H
              refine at_cond_f rfl (decide_eq_false h392) ?_
              refine at_skip (at_thn (at_seq (at_reg0 [] [2] [(2, iV 1)] ?_)))
              refine at_thn (at_ret ?_)
              obtain rfl := Option.some.inj H
              exact at_done0 [iV 1] (.inl rfl) [.tmp 2] fun w hs => ⟨_, _, [], rfl, ⟨rfl, rfl⟩, hle, hs⟩
            ·
             rw [if_neg h391] at H
             refine at_reg1 [(2, .bool false), (6, .bool false), (9, .bool true), (14, .bool false), (17, .bool false), (25, .bool false), (33, .bool true), (38, .bool false), (41, .bool true), (46, .bool false), (49, .bool false)] [67] [(67, .bool false)] [oF (p223 < 32), fun _ => (.bool (p223 == 127) : Value) = .bool false, oT (p223 ≥ 4352), oF (p223 ≤ 4447), oF (p223 ≥ 11904), oF (p223 ≥ 44032), oT (p223 ≥ 63744), oF (p223 ≤ 64255), oT (p223 ≥ 65281), oF (p223 ≤ 65376), oF (p223 ≥ 127744)] (fun w hs => ⟨cF (h335), congrArg Value.bool (beq_eq_false_iff_ne.2 h336), cT (h337), cF (h338), cF (h339), cF (h371), cT (h387), cF (h388), cT (h389), cF (h390), cF (h391)⟩) ?_
             refine at_thn (at_cond_f rfl (rfl) ?_)
             refine at_skip (at_thn (at_seq (at_reg0 [] [2] [(2, iV 1)] ?_)))
             refine at_thn (at_ret ?_)
             obtain rfl := Option.some.inj H
             exact at_done0 [iV 1] (.inl rfl) [.tmp 2] fun w hs => ⟨_, _, [], rfl, ⟨rfl, rfl⟩, hle, hs⟩
          ·
           rw [if_neg h389] at H
           by_cases h393 : p223 ≥ 127744
           ·
            rw [if_pos h393] at H
            refine at_reg1 [(2, .bool false), (6, .bool false), (9, .bool true), (14, .bool false), (17, .bool false), (25, .bool false), (33, .bool true), (38, .bool false), (41, .bool false), (49, .bool true)] [67] [(67, .bool (decide (p223 ≤ 129791)))] [oF (p223 < 32), fun _ => (.bool (p223 == 127) : Value) = .bool false, oT (p223 ≥ 4352), oF (p223 ≤ 4447), oF (p223 ≥ 11904), oF (p223 ≥ 44032), oT (p223 ≥ 63744), oF (p223 ≤ 64255), oF (p223 ≥ 65281), oT (p223 ≥ 127744)] (fun w hs => ⟨cF (h335), congrArg Value.bool (beq_eq_false_iff_ne.2 h336), cT (h337), cF (h338), cF (h339), cF (h371), cT (h387), cF (h388), cF (h389), cT (h393)⟩) ?_
            refine at_thn ?_
            by_cases h394 : p223 ≤ 129791
            ·
             rw [if_pos h394] at H
             refine at_cond_t rfl (decide_eq_true h394) ?_
             refine at_seq (at_reg0 [] [2] [(2, iV 2)] ?_)
             refine at_thn (at_ret (at_then_ret ?_))
             obtain rfl := Option.some.inj H
             exact at_done0 [iV 2] (.inl rfl) [.tmp 2] fun w hs => ⟨_, _, [], rfl, ⟨rfl, rfl⟩, hle, hs⟩
            ·
             rw [if_neg h394] at H
             refine at_cond_f rfl (decide_eq_false h394) ?_
             refine at_skip (at_thn (at_seq (at_reg0 [] [2] [(2, iV 1)] ?_)))
             refine at_thn (at_ret ?_)
             obtain rfl := Option.some.inj H
             exact at_done0 [iV 1] (.inl rfl) [.tmp 2] fun w hs => ⟨_, _, [], rfl, ⟨rfl, rfl⟩, hle, hs⟩
           ·
            rw [if_neg h393] at H
            refine at_reg1 [(2, .bool false), (6, .bool false), (9, .bool true), (14, .bool false), (17, .bool false), (25, .bool false), (33, .bool true), (38, .bool false), (41, .bool false), (49, .bool false)] [67] [(67, .bool false)] [oF (p223 < 32), fun _ => (.bool (p223 == 127) : Value) = .bool false, oT (p223 ≥ 4352), oF (p223 ≤ 4447), oF (p223 ≥ 11904), oF (p223 ≥ 44032), oT (p223 ≥ 63744), oF (p223 ≤ 64255), oF (p223 ≥ 65281), oF (p223 ≥ 127744)] (fun w hs => ⟨cF (h335), congrArg Value.bool (beq_eq_false_iff_ne.2 h336), cT (h337), cF (h338), cF (h339), cF (h371), cT (h387), cF (h388), cF (h389), cF (h393)⟩) ?_
            refine at_thn (at_cond_f rfl (rfl) ?_)
            refine at_skip (at_thn (at_seq (at_reg0 [] [2] [(2, iV 1)] ?_)))
            refine at_thn (at_ret ?_)
            obtain rfl := Option.some.inj H
            exact at_done0 [iV 1] (.inl rfl) [.tmp 2] fun w hs => ⟨_, _, [], rfl, ⟨rfl, rfl⟩, hle, hs⟩
        ·
         rw [if_neg h387] at H
         by_cases h395 : p223 ≥ 65281
         ·
          rw [if_pos h395] at H
          by_cases h396 : p223 ≤ 65376
          ·
           rw [if_pos h396] at H
           refine at_reg1 [(2, .bool false), (6, .bool false), (9, .bool true), (14, .bool false), (17, .bool false), (25, .bool false), (33, .bool false), (41, .bool true), (46, .bool true)] [67] [(67, .bool true)] [oF (p223 < 32), fun _ => (.bool (p223 == 127) : Value) = .bool false, oT (p223 ≥ 4352), oF (p223 ≤ 4447), oF (p223 ≥ 11904), oF (p223 ≥ 44032), oF (p223 ≥ 63744), oT (p223 ≥ 65281), oT (p223 ≤ 65376)] (fun w hs => ⟨cF (h335), congrArg Value.bool (beq_eq_false_iff_ne.2 h336), cT (h337), cF (h338), cF (h339), cF (h371), cF (h387), cT (h395), cT (h396)⟩) ?_
           refine at_thn (at_cond_t rfl (rfl) ?_)
           refine at_seq (at_reg0 [] [2] [(2, iV 2)] ?_)
           refine at_thn (at_ret (at_then_ret ?_))
           obtain rfl := Option.some.inj H
           exact at_done0 [iV 2] (.inl rfl) [.tmp 2] fun w hs => ⟨_, _, [], rfl, ⟨rfl, rfl⟩, hle, hs⟩
          ·
           rw [if_neg h396] at H
           by_cases h397 : p223 ≥ 127744
           ·
            rw [if_pos h397] at H
            refine at_reg1 [(2, .bool false), (6, .bool false), (9, .bool true), (14, .bool false), (17, .bool false), (25, .bool false), (33, .bool false), (41, .bool true), (46, .bool false), (49, .bool true)] [67] [(67, .bool (decide (p223 ≤ 129791)))] [oF (p223 < 32), fun _ => (.bool (p223 == 127) : Value) = .bool false, oT (p223 ≥ 4352), oF (p223 ≤ 4447), oF (p223 ≥ 11904), oF (p223 ≥ 44032), oF (p223 ≥ 63744), oT (p223 ≥ 65281), oF (p223 ≤ 65376), oT (p223 ≥ 127744)] (fun w hs => ⟨cF (h335), congrArg Value.bool (beq_eq_false_iff_ne.2 h336), cT (h337), cF (h338), cF (h339), cF (h371), cF (h387), cT (h395), cF (h396), cT (h397)⟩) ?_
            refine at_thn ?_
            by_cases h398 : p223 ≤ 129791
            ·
             rw [if_pos h398] at H
             refine at_cond_t rfl (decide_eq_true h398) ?_
             refine at_seq (at_reg0 [] [2] [(2, iV 2)] ?_)
             refine at_thn (at_ret (at_then_ret ?_))
             obtain rfl := Option.some.inj H
             exact at_done0 [iV 2] (.inl rfl) [.tmp 2] fun w hs => ⟨_, _, [], rfl, ⟨rfl, rfl⟩, hle, hs⟩
            ·
             rw [if_neg h398] at H
             refine at_cond_f rfl (decide_eq_false h398) ?_
             refine at_skip (at_thn (at_seq (at_reg0 [] [2] [(2, iV 1)] ?_)))
             refine at_thn (at_ret ?_)
             obtain rfl := Option.some.inj H
             exact at_done0 [iV 1] (.inl rfl) [.tmp 2] fun w hs => ⟨_, _, [], rfl, ⟨rfl, rfl⟩, hle, hs⟩
           ·
            rw [if_neg h397] at H
            refine at_reg1 [(2, .bool false), (6, .bool false), (9, .bool true), (14, .bool false), (17, .bool false), (25, .bool false), (33, .bool false), (41, .bool true), (46, .bool false), (49, .bool false)] [67] [(67, .bool false)] [oF (p223 < 32), fun _ => (.bool (p223 == 127) : Value) = .bool false, oT (p223 ≥ 4352), oF (p223 ≤ 4447), oF (p223 ≥ 11904), oF (p223 ≥ 44032), oF (p223 ≥ 63744), oT (p223 ≥ 65281), oF (p223 ≤ 65376), oF (p223 ≥ 127744)] (fun w hs => ⟨cF (h335), congrArg Value.bool (beq_eq_false_iff_ne.2 h336), cT (h337), cF (h338), cF (h339), cF (h371), cF (h387), cT (h395), cF (h396), cF (h397)⟩) ?_
            refine at_thn (at_cond_f rfl (rfl) ?_)
            refine at_skip (at_thn (at_seq (at_reg0 [] [2] [(2, iV 1)] ?_)))
            refine at_thn (at_ret ?_)
            obtain rfl := Option.some.inj H
            exact at_done0 [iV 1] (.inl rfl) [.tmp 2] fun w hs => ⟨_, _, [], rfl, ⟨rfl, rfl⟩, hle, hs⟩
         ·
          rw [if_neg h395] at H
          by_cases h399 : p223 ≥ 127744
          ·
           rw [if_pos h399] at H
           refine at_reg1 [(2, .bool false), (6, .bool false), (9, .bool true), (14, .bool false), (17, .bool false), (25, .bool false), (33, .bool false), (41, .bool false), (49, .bool true)] [67] [(67, .bool (decide (p223 ≤ 129791)))] [oF (p223 < 32), fun _ => (.bool (p223 == 127) : Value) = .bool false, oT (p223 ≥ 4352), oF (p223 ≤ 4447), oF (p223 ≥ 11904), oF (p223 ≥ 44032), oF (p223 ≥ 63744), oF (p223 ≥ 65281), oT (p223 ≥ 127744)] (fun w hs => ⟨cF (h335), congrArg Value.bool (beq_eq_false_iff_ne.2 h336), cT (h337), cF (h338), cF (h339), cF (h371), cF (h387), cF (h395), cT (h399)⟩) ?_
           refine at_thn ?_
           by_cases h400 : p223 ≤ 129791
           ·
            rw [if_pos h400] at H
            refine at_cond_t rfl (decide_eq_true h400) ?_
            refine at_seq (at_reg0 [] [2] [(2, iV 2)] ?_)
            refine at_thn (at_ret (at_then_ret ?_))
            obtain rfl := Option.some.inj H
            exact at_done0 [iV 2] (.inl rfl) [.tmp 2] fun w hs => ⟨_, _, [], rfl, ⟨rfl, rfl⟩, hle, hs⟩
           ·
            rw [if_neg h400] at H
            refine at_cond_f rfl (decide_eq_false h400) ?_
            refine at_skip (at_thn (at_seq (at_reg0 [] [2] [(2, iV 1)] ?_)))
            refine at_thn (at_ret ?_)
            obtain rfl := Option.some.inj H
            exact at_done0 [iV 1] (.inl rfl) [.tmp 2] fun w hs => ⟨_, _, [], rfl, ⟨rfl, rfl⟩, hle, hs⟩
          ·
           rw [if_neg h399] at H
           refine at_reg1 [(2, .bool false), (6, .bool false), (9, .bool true), (14, .bool false), (17, .bool false), (25, .bool false), (33, .bool false), (41, .bool false), (49, .bool false)] [67] [(67, .bool false)] [oF (p223 < 32), fun _ => (.bool (p223 == 127) : Value) = .bool false, oT (p223 ≥ 4352), oF (p223 ≤ 4447), oF (p223 ≥ 11904), oF (p223 ≥ 44032), oF (p223 ≥ 63744), oF (p223 ≥ 65281), oF (p223 ≥ 127744)] (fun w hs => ⟨cF (h335), congrArg Value.bool (beq_eq_false_iff_ne.2 h336), cT (h337), cF (h338), cF (h339), cF (h371), cF (h387), cF (h395), cF (h399)⟩) ?_
           refine at_thn (at_cond_f rfl (rfl) ?_)
           refine at_skip (at_thn (at_seq (at_reg0 [] [2] [(2, iV 1)] ?_)))
           refine at_thn (at_ret ?_)
           obtain rfl := Option.some.inj H
           exact at_done0 [iV 1] (.inl rfl) [.tmp 2] fun w hs => ⟨_, _, [], rfl, ⟨rfl, rfl⟩, hle, hs⟩
    ·
     rw [if_neg h337] at H
     by_cases h401 : p223 ≥ 11904
     ·
      rw [if_pos h401] at H
      by_cases h402 : p223 ≤ 42191
      ·
       rw [if_pos h402] at H
       refine at_reg1 [(2, .bool false), (6, .bool false), (9, .bool false), (17, .bool true), (22, .bool true)] [67] [(67, .bool true)] [oF (p223 < 32), fun _ => (.bool (p223 == 127) : Value) = .bool false, oF (p223 ≥ 4352), oT (p223 ≥ 11904), oT (p223 ≤ 42191)] (fun w hs => ⟨cF (h335), congrArg Value.bool (beq_eq_false_iff_ne.2 h336), cF (h337), cT (h401), cT (h402)⟩) ?_
       refine at_thn (at_cond_t rfl (rfl) ?_)
       refine at_seq (at_reg0 [] [2] [(2, iV 2)] ?_)
       refine at_thn (at_ret (at_then_ret ?_))
       obtain rfl := Option.some.inj H
       exact at_done0 [iV 2] (.inl rfl) [.tmp 2] fun w hs => ⟨_, _, [], rfl, ⟨rfl, rfl⟩, hle, hs⟩
      ·
       rw [if_neg h402] at H
       by_cases h403 : p223 ≥ 44032
       ·
        rw [if_pos h403] at H
        by_cases h404 : p223 ≤ 55203
        ·
         rw [if_pos h404] at H
         refine at_reg1 [(2, .bool false), (6, .bool false), (9, .bool false), (17, .bool true), (22, .bool false), (25, .bool true), (30, .bool true)] [67] [(67, .bool true)] [oF (p223 < 32), fun _ => (.bool (p223 == 127) : Value) = .bool false, oF (p223 ≥ 4352), oT (p223 ≥ 11904), oF (p223 ≤ 42191), oT (p223 ≥ 44032), oT (p223 ≤ 55203)] (fun w hs => ⟨cF (h335), congrArg Value.bool (beq_eq_false_iff_ne.2 h336), cF (h337), cT (h401), cF (h402), cT (h403), cT (h404)⟩) ?_
         refine at_thn (at_cond_t rfl (rfl) ?_)
         refine at_seq (at_reg0 [] [2] [(2, iV 2)] ?_)
         refine at_thn (at_ret (at_then_ret ?_))
         obtain rfl := Option.some.inj H
         exact at_done0 [iV 2] (.inl rfl) [.tmp 2] fun w hs => ⟨_, _, [], rfl, ⟨rfl, rfl⟩, hle, hs⟩
        ·
         rw [if_neg h404] at H
         by_cases h405 : p223 ≥ 63744
         ·
          rw [if_pos h405] at H
          by_cases h406 : p223 ≤ 64255
          ·
           rw [if_pos h406] at H
           refine at_reg1 [(2, .bool false), (6, .bool false), (9, .bool false), (17, .bool true), (22, .bool false), (25, .bool true), (30, .bool false), (33, .bool true), (38, .bool true)] [67] [(67, .bool true)] [oF (p223 < 32), fun _ => (.bool (p223 == 127) : Value) = .bool false, oF (p223 ≥ 4352), oT (p223 ≥ 11904), oF (p223 ≤ 42191), oT (p223 ≥ 44032), oF (p223 ≤ 55203), oT (p223 ≥ 63744), oT (p223 ≤ 64255)] (fun w hs => ⟨cF (h335), congrArg Value.bool (beq_eq_false_iff_ne.2 h336), cF (h337), cT (h401), cF (h402), cT (h403), cF (h404), cT (h405), cT (h406)⟩) ?_
           refine at_thn (at_cond_t rfl (rfl) ?_)
           refine at_seq (at_reg0 [] [2] [(2, iV 2)] ?_)
           refine at_thn (at_ret (at_then_ret ?_))
           obtain rfl := Option.some.inj H
           exact at_done0 [iV 2] (.inl rfl) [.tmp 2] fun w hs => ⟨_, _, [], rfl, ⟨rfl, rfl⟩, hle, hs⟩
          ·
           rw [if_neg h406] at H
           by_cases h407 : p223 ≥ 65281
           ·
            rw [if_pos h407] at H
            by_cases h408 : p223 ≤ 65376
            ·
             rw [if_pos h408] at H
             refine at_reg1 [(2, .bool false), (6, .bool false), (9, .bool false), (17, .bool true), (22, .bool false), (25, .bool true), (30, .bool false), (33, .bool true), (38, .bool false), (41, .bool true), (46, .bool true)] [67] [(67, .bool true)] [oF (p223 < 32), fun _ => (.bool (p223 == 127) : Value) = .bool false, oF (p223 ≥ 4352), oT (p223 ≥ 11904), oF (p223 ≤ 42191), oT (p223 ≥ 44032), oF (p223 ≤ 55203), oT (p223 ≥ 63744), oF (p223 ≤ 64255), oT (p223 ≥ 65281), oT (p223 ≤ 65376)] (fun w hs => ⟨cF (h335), congrArg Value.bool (beq_eq_false_iff_ne.2 h336), cF (h337), cT (h401), cF (h402), cT (h403), cF (h404), cT (h405), cF (h406), cT (h407), cT (h408)⟩) ?_
             refine at_thn (at_cond_t rfl (rfl) ?_)
             refine at_seq (at_reg0 [] [2] [(2, iV 2)] ?_)
             refine at_thn (at_ret (at_then_ret ?_))
             obtain rfl := Option.some.inj H
             exact at_done0 [iV 2] (.inl rfl) [.tmp 2] fun w hs => ⟨_, _, [], rfl, ⟨rfl, rfl⟩, hle, hs⟩
            ·
             rw [if_neg h408] at H
             by_cases h409 : p223 ≥ 127744
             ·
              rw [if_pos h409] at H
              refine at_reg1 [(2, .bool false), (6, .bool false), (9, .bool false), (17, .bool true), (22, .bool false), (25, .bool true), (30, .bool false), (33, .bool true), (38, .bool false), (41, .bool true), (46, .bool false), (49, .bool true)] [67] [(67, .bool (decide (p223 ≤ 129791)))] [oF (p223 < 32), fun _ => (.bool (p223 == 127) : Value) = .bool false, oF (p223 ≥ 4352), oT (p223 ≥ 11904), oF (p223 ≤ 42191), oT (p223 ≥ 44032), oF (p223 ≤ 55203), oT (p223 ≥ 63744), oF (p223 ≤ 64255), oT (p223 ≥ 65281), oF (p223 ≤ 65376), oT (p223 ≥ 127744)] (fun w hs => ⟨cF (h335), congrArg Value.bool (beq_eq_false_iff_ne.2 h336), cF (h337), cT (h401), cF (h402), cT (h403), cF (h404), cT (h405), cF (h406), cT (h407), cF (h408), cT (h409)⟩) ?_
              refine at_thn ?_
              by_cases h410 : p223 ≤ 129791
              ·
               rw [if_pos h410] at H
               refine at_cond_t rfl (decide_eq_true h410) ?_
               refine at_seq (at_reg0 [] [2] [(2, iV 2)] ?_)
               refine at_thn (at_ret (at_then_ret ?_))
               obtain rfl := Option.some.inj H
               exact at_done0 [iV 2] (.inl rfl) [.tmp 2] fun w hs => ⟨_, _, [], rfl, ⟨rfl, rfl⟩, hle, hs⟩
              ·
               rw [if_neg h410] at H
               refine at_cond_f rfl (decide_eq_false h410) ?_
               refine at_skip (at_thn (at_seq (at_reg0 [] [2] [(2, iV 1)] ?_)))
               refine at_thn (at_ret ?_)
               obtain rfl := Option.some.inj H
               exact at_done0 [iV 1] (.inl rfl) [.tmp 2] fun w hs => ⟨_, _, [], rfl, ⟨rfl, rfl⟩, hle, hs⟩
             ·
              rw [if_neg h409] at H
              refine at_reg1 [(2, .bool false), (6, .bool false), (9, .bool false), (17, .bool true), (22, .bool false), (25, .bool true), (30, .bool false), (33, .bool true), (38, .bool false), (41, .bool true), (46, .bool false), (49, .bool false)] [67] [(67, .bool false)] [oF (p223 < 32), fun _ => (.bool (p223 == 127) : Value) = .bool false, oF (p223 ≥ 4352), oT (p223 ≥ 11904), oF (p223 ≤ 42191), oT (p223 ≥ 44032), oF (p223 ≤ 55203), oT (p223 ≥ 63744), oF (p223 ≤ 64255), oT (p223 ≥ 65281), oF (p223 ≤ 65376), oF (p223 ≥ 127744)] (fun w hs => ⟨cF (h335), congrArg Value.bool (beq_eq_false_iff_ne.2 h336), cF (h337), cT (h401), cF (h402), cT (h403), cF (h404), cT (h405), cF (h406), cT (h407), cF (h408), cF (h409)⟩) ?_
              refine at_thn (at_cond_f rfl (rfl) ?_)
              refine at_skip (at_thn (at_seq (at_reg0 [] [2] [(2, iV 1)] ?_)))
              refine at_thn (at_ret ?_)
              obtain rfl := Option.some.inj H
              exact at_done0 [iV 1] (.inl rfl) [.tmp 2] fun w hs => ⟨_, _, [], rfl, ⟨rfl, rfl⟩, hle, hs⟩
           ·
            rw [if_neg h407] at H
            by_cases h411 : p223 ≥ 127744
            ·
             rw [if_pos h411] at H
             refine at_reg1 [(2, .bool false), (6, .bool false), (9, .bool false), (17, .bool true), (22, .bool false), (25, .bool true), (30, .bool false), (33, .bool true), (38, .bool false), (41, .bool false), (49, .bool true)] [67] [(67, .bool (decide (p223 ≤ 129791)))] [oF (p223 < 32), fun _ => (.bool (p223 == 127) : Value) = .bool false, oF (p223 ≥ 4352), oT (p223 ≥ 11904), oF (p223 ≤ 42191), oT (p223 ≥ 44032), oF (p223 ≤ 55203), oT (p223 ≥ 63744), oF (p223 ≤ 64255), oF (p223 ≥ 65281), oT (p223 ≥ 127744)] (fun w hs => ⟨cF (h335), congrArg Value.bool (beq_eq_false_iff_ne.2 h336), cF (h337), cT (h401), cF (h402), cT (h403), cF (h404), cT (h405), cF (h406), cF (h407), cT (h411)⟩) ?_
             refine at_thn ?_
             by_cases h412 : p223 ≤ 129791
             ·
              rw [if_pos h412] at H
              refine at_cond_t rfl (decide_eq_true h412) ?_
              refine at_seq (at_reg0 [] [2] [(2, iV 2)] ?_)
              refine at_thn (at_ret (at_then_ret ?_))
              obtain rfl := Option.some.inj H
              exact at_done0 [iV 2] (.inl rfl) [.tmp 2] fun w hs => ⟨_, _, [], rfl, ⟨rfl, rfl⟩, hle, hs⟩
             ·
              rw [if_neg h412] at H
              refine at_cond_f rfl (decide_eq_false h412) ?_
              refine at_skip (at_thn (at_seq (at_reg0 [] [2] [(2, iV 1)] ?_)))
              refine at_thn (at_ret ?_)
              obtain rfl := Option.some.inj H
              exact at_done0 [iV 1] (.inl rfl) [.tmp 2] fun w hs => ⟨_, _, [], rfl, ⟨rfl, rfl⟩, hle, hs⟩
            ·
             rw [if_neg h411] at H
             refine at_reg1 [(2, .bool false), (6, .bool false), (9, .bool false), (17, .bool true), (22, .bool false), (25, .bool true), (30, .bool false), (33, .bool true), (38, .bool false), (41, .bool false), (49, .bool false)] [67] [(67, .bool false)] [oF (p223 < 32), fun _ => (.bool (p223 == 127) : Value) = .bool false, oF (p223 ≥ 4352), oT (p223 ≥ 11904), oF (p223 ≤ 42191), oT (p223 ≥ 44032), oF (p223 ≤ 55203), oT (p223 ≥ 63744), oF (p223 ≤ 64255), oF (p223 ≥ 65281), oF (p223 ≥ 127744)] (fun w hs => ⟨cF (h335), congrArg Value.bool (beq_eq_false_iff_ne.2 h336), cF (h337), cT (h401), cF (h402), cT (h403), cF (h404), cT (h405), cF (h406), cF (h407), cF (h411)⟩) ?_
             refine at_thn (at_cond_f rfl (rfl) ?_)
             refine at_skip (at_thn (at_seq (at_reg0 [] [2] [(2, iV 1)] ?_)))
             refine at_thn (at_ret ?_)
             obtain rfl := Option.some.inj H
             exact at_done0 [iV 1] (.inl rfl) [.tmp 2] fun w hs => ⟨_, _, [], rfl, ⟨rfl, rfl⟩, hle, hs⟩
         ·
          rw [if_neg h405] at H
          by_cases h413 : p223 ≥ 65281
          ·
           rw [if_pos h413] at H
           by_cases h414 : p223 ≤ 65376
           ·
            rw [if_pos h414] at H
            refine at_reg1 [(2, .bool false), (6, .bool false), (9, .bool false), (17, .bool true), (22, .bool false), (25, .bool true), (30, .bool false), (33, .bool false), (41, .bool true), (46, .bool true)] [67] [(67, .bool true)] [oF (p223 < 32), fun _ => (.bool (p223 == 127) : Value) = .bool false, oF (p223 ≥ 4352), oT (p223 ≥ 11904), oF (p223 ≤ 42191), oT (p223 ≥ 44032), oF (p223 ≤ 55203), oF (p223 ≥ 63744), oT (p223 ≥ 65281), oT (p223 ≤ 65376)] (fun w hs => ⟨cF (h335), congrArg Value.bool (beq_eq_false_iff_ne.2 h336), cF (h337), cT (h401), cF (h402), cT (h403), cF (h404), cF (h405), cT (h413), cT (h414)⟩) ?_
            refine at_thn (at_cond_t rfl (rfl) ?_)
            refine at_seq (at_reg0 [] [2] [(2, iV 2)] ?_)
            refine at_thn (at_ret (at_then_ret ?_))
            obtain rfl := Option.some.inj H
            exact at_done0 [iV 2] (.inl rfl) [.tmp 2] fun w hs => ⟨_, _, [], rfl, ⟨rfl, rfl⟩, hle, hs⟩
           ·
            rw [if_neg h414] at H
            by_cases h415 : p223 ≥ 127744
            ·
             rw [if_pos h415] at H
             refine at_reg1 [(2, .bool false), (6, .bool false), (9, .bool false), (17, .bool true), (22, .bool false), (25, .bool true), (30, .bool false), (33, .bool false), (41, .bool true), (46, .bool false), (49, .bool true)] [67] [(67, .bool (decide (p223 ≤ 129791)))] [oF (p223 < 32), fun _ => (.bool (p223 == 127) : Value) = .bool false, oF (p223 ≥ 4352), oT (p223 ≥ 11904), oF (p223 ≤ 42191), oT (p223 ≥ 44032), oF (p223 ≤ 55203), oF (p223 ≥ 63744), oT (p223 ≥ 65281), oF (p223 ≤ 65376), oT (p223 ≥ 127744)] (fun w hs => ⟨cF (h335), congrArg Value.bool (beq_eq_false_iff_ne.2 h336), cF (h337), cT (h401), cF (h402), cT (h403), cF (h404), cF (h405), cT (h413), cF (h414), cT (h415)⟩) ?_
             refine at_thn ?_
             by_cases h416 : p223 ≤ 129791
             ·
              rw [if_pos h416] at H
              refine at_cond_t rfl (decide_eq_true h416) ?_
              refine at_seq (at_reg0 [] [2] [(2, iV 2)] ?_)
              refine at_thn (at_ret (at_then_ret ?_))
              obtain rfl := Option.some.inj H
              exact at_done0 [iV 2] (.inl rfl) [.tmp 2] fun w hs => ⟨_, _, [], rfl, ⟨rfl, rfl⟩, hle, hs⟩
             ·
              rw [if_neg h416] at H
              refine at_cond_f rfl (decide_eq_false h416) ?_
              refine at_skip (at_thn (at_seq (at_reg0 [] [2] [(2, iV 1)] ?_)))
              refine at_thn (at_ret ?_)
              obtain rfl := Option.some.inj H
              exact at_done0 [iV 1] (.inl rfl) [.tmp 2] fun w hs => ⟨_, _, [], rfl, ⟨rfl, rfl⟩, hle, hs⟩
            ·
             rw [if_neg h415] at H
             refine at_reg1 [(2, .bool false), (6, .bool false), (9, .bool false), (17, .bool true), (22, .bool false), (25, .bool true), (30, .bool false), (33, .bool false), (41, .bool true), (46, .bool false), (49, .bool false)] [67] [(67, .bool false)] [oF (p223 < 32), fun _ => (.bool (p223 == 127) : Value) = .bool false, oF (p223 ≥ 4352), oT (p223 ≥ 11904), oF (p223 ≤ 42191), oT (p223 ≥ 44032), oF (p223 ≤ 55203), oF (p223 ≥ 63744), oT (p223 ≥ 65281), oF (p223 ≤ 65376), oF (p223 ≥ 127744)] (fun w hs => ⟨cF (h335), congrArg Value.bool (beq_eq_false_iff_ne.2 h336), cF (h337), cT (h401), cF (h402), cT (h403), cF (h404), cF (h405), cT (h413), cF (h414), cF (h415)⟩) ?_
             refine at_thn (at_cond_f rfl (rfl) ?_)
             refine at_skip (at_thn (at_seq (at_reg0 [] [2] [(2, iV 1)] ?_)))
             refine at_thn (at_ret ?_)
             obtain rfl := Option.some.inj H
             exact at_done0 [iV 1] (.inl rfl) [.tmp 2] fun w hs => ⟨_, _, [], rfl, ⟨rfl, rfl⟩, hle, hs⟩
          ·
           rw [if_neg h413] at H
           by_cases h417 : p223 ≥ 127744
           ·
            rw [if_pos h417] at H
            refine at_reg1 [(2, .bool false), (6, .bool false), (9, .bool false), (17, .bool true), (22, .bool false), (25, .bool true), (30, .bool false), (33, .bool false), (41, .bool false), (49, .bool true)] [67] [(67, .bool (decide (p223 ≤ 129791)))] [oF (p223 < 32), fun _ => (.bool (p223 == 127) : Value) = .bool false, oF (p223 ≥ 4352), oT (p223 ≥ 11904), oF (p223 ≤ 42191), oT (p223 ≥ 44032), oF (p223 ≤ 55203), oF (p223 ≥ 63744), oF (p223 ≥ 65281), oT (p223 ≥ 127744)] (fun w hs => ⟨cF (h335), congrArg Value.bool (beq_eq_false_iff_ne.2 h336), cF (h337), cT (h401), cF (h402), cT (h403), cF (h404), cF (h405), cF (h413), cT (h417)⟩) ?_
            refine at_thn ?_
            by_cases h418 : p223 ≤ 129791
            ·
             rw [if_pos h418] at H
             refine at_cond_t rfl (decide_eq_true h418) ?_
             refine at_seq (at_reg0 [] [2] [(2, iV 2)] ?_)
             refine at_thn (at_ret (at_then_ret ?_))
             obtain rfl := Option.some.inj H
             exact at_done0 [iV 2] (.inl rfl) [.tmp 2] fun w hs => ⟨_, _, [], rfl, ⟨rfl, rfl⟩, hle, hs⟩
            ·
             rw [if_neg h418] at H
             refine at_cond_f rfl (decide_eq_false h418) ?_
             refine at_skip (at_thn (at_seq (at_reg0 [] [2] [(2, iV 1)] ?_)))
             refine at_thn (at_ret ?_)
             obtain rfl := Option.some.inj H
             exact at_done0 [iV 1] (.inl rfl) [.tmp 2] fun w hs => ⟨_, _, [], rfl, ⟨rfl, rfl⟩, hle, hs⟩
           ·
            rw [if_neg h417] at H
            refine at_reg1 [(2, .bool false), (6, .bool false), (9, .bool false), (17, .bool true), (22, .bool false), (25, .bool true), (30, .bool false), (33, .bool false), (41, .bool false), (49, .bool false)] [67] [(67, .bool false)] [oF (p223 < 32), fun _ => (.bool (p223 == 127) : Value) = .bool false, oF (p223 ≥ 4352), oT (p223 ≥ 11904), oF (p223 ≤ 42191), oT (p223 ≥ 44032), oF (p223 ≤ 55203), oF (p223 ≥ 63744), oF (p223 ≥ 65281), oF (p223 ≥ 127744)] (fun w hs => ⟨cF (h335), congrArg Value.bool (beq_eq_false_iff_ne.2 h336), cF (h337), cT (h401), cF (h402), cT (h403), cF (h404), cF (h405), cF (h413), cF (h417)⟩) ?_
            refine at_thn (at_cond_f rfl (rfl) ?_)
            refine at_skip (at_thn (at_seq (at_reg0 [] [2] [(2, iV 1)] ?_)))
            refine at_thn (at_ret ?_)
            obtain rfl := Option.some.inj H
            exact at_done0 [iV 1] (.inl rfl) [.tmp 2] fun w hs => ⟨_, _, [], rfl, ⟨rfl, rfl⟩, hle, hs⟩
       ·
        rw [if_neg h403] at H
        by_cases h419 : p223 ≥ 63744
        ·
         rw [if_pos h419] at H
         by_cases h420 : p223 ≤ 64255
         ·
          rw [if_pos h420] at H
          refine at_reg1 [(2, .bool false), (6, .bool false), (9, .bool false), (17, .bool true), (22, .bool false), (25, .bool false), (33, .bool true), (38, .bool true)] [67] [(67, .bool true)] [oF (p223 < 32), fun _ => (.bool (p223 == 127) : Value) = .bool false, oF (p223 ≥ 4352), oT (p223 ≥ 11904), oF (p223 ≤ 42191), oF (p223 ≥ 44032), oT (p223 ≥ 63744), oT (p223 ≤ 64255)] (fun w hs => ⟨cF (h335), congrArg Value.bool (beq_eq_false_iff_ne.2 h336), cF (h337), cT (h401), cF (h402), cF (h403), cT (h419), cT (h420)⟩) ?_
          refine at_thn (at_cond_t rfl (rfl) ?_)
          refine at_seq (at_reg0 [] [2] [(2, iV 2)] ?_)
          refine at_thn (at_ret (at_then_ret ?_))
          obtain rfl := Option.some.inj H
          exact at_done0 [iV 2] (.inl rfl) [.tmp 2] fun w hs => ⟨_, _, [], rfl, ⟨rfl, rfl⟩, hle, hs⟩
         ·
          rw [if_neg h420] at H
          by_cases h421 : p223 ≥ 65281
          ·
           rw [if_pos h421] at H
           by_cases h422 : p223 ≤ 65376
           ·
            rw [if_pos h422] at H
            refine at_reg1 [(2, .bool false), (6, .bool false), (9, .bool false), (17, .bool true), (22, .bool false), (25, .bool false), (33, .bool true), (38, .bool false), (41, .bool true), (46, .bool true)] [67] [(67, .bool true)] [oF (p223 < 32), fun _ => (.bool (p223 == 127) : Value) = .bool false, oF (p223 ≥ 4352), oT (p223 ≥ 11904), oF (p223 ≤ 42191), oF (p223 ≥ 44032), oT (p223 ≥ 63744), oF (p223 ≤ 64255), oT (p223 ≥ 65281), oT (p223 ≤ 65376)] (fun w hs => ⟨cF (h335), congrArg Value.bool (beq_eq_false_iff_ne.2 h336), cF (h337), cT (h401), cF (h402), cF (h403), cT (h419), cF (h420), cT (h421), cT (h422)⟩) ?_
            refine at_thn (at_cond_t rfl (rfl) ?_)
            refine at_seq (at_reg0 [] [2] [(2, iV 2)] ?_)
            refine at_thn (at_ret (at_then_ret ?_))
            obtain rfl := Option.some.inj H
            exact at_done0 [iV 2] (.inl rfl) [.tmp 2] fun w hs => ⟨_, _, [], rfl, ⟨rfl, rfl⟩, hle, hs⟩
           ·
            rw [if_neg h422] at H
            by_cases h423 : p223 ≥ 127744
            ·
             rw [if_pos h423] at H
             refine at_reg1 [(2, .bool false), (6, .bool false), (9, .bool false), (17, .bool true), (22, .bool false), (25, .bool false), (33, .bool true), (38, .bool false), (41, .bool true), (46, .bool false), (49, .bool true)] [67] [(67, .bool (decide (p223 ≤ 129791)))] [oF (p223 < 32), fun _ => (.bool (p223 == 127) : Value) = .bool false, oF (p223 ≥ 4352), oT (p223 ≥ 11904), oF (p223 ≤ 42191), oF (p223 ≥ 44032), oT (p223 ≥ 63744), oF (p223 ≤ 64255), oT (p223 ≥ 65281), oF (p223 ≤ 65376), oT (p223 ≥ 127744)] (fun w hs => ⟨cF (h335), congrArg Value.bool (beq_eq_false_iff_ne.2 h336), cF (h337), cT (h401), cF (h402), cF (h403), cT (h419), cF (h420), cT (h421), cF (h422), cT (h423)⟩) ?_
             refine at_thn ?_
             by_cases h424 : p223 ≤ 129791
             ·
              rw [if_pos h424] at H
              refine at_cond_t rfl (decide_eq_true h424) ?_
              refine at_seq (at_reg0 [] [2] [(2, iV 2)] ?_)
              refine at_thn (at_ret (at_then_ret ?_))
              obtain rfl := Option.some.inj H
              exact at_done0 [iV 2] (.inl rfl) [.tmp 2] fun w hs => ⟨_, _, [], rfl, ⟨rfl, rfl⟩, hle, hs⟩
             ·
              rw [if_neg h424] at H
              refine at_cond_f rfl (decide_eq_false h424) ?_
              refine at_skip (at_thn (at_seq (at_reg0 [] [2] [(2, iV 1)] ?_)))
              refine at_thn (at_ret ?_)
              obtain rfl := Option.some.inj H
              exact at_done0 [iV 1] (.inl rfl) [.tmp 2] fun w hs => ⟨_, _, [], rfl, ⟨rfl, rfl⟩, hle, hs⟩
            ·
             rw [if_neg h423] at H
             refine at_reg1 [(2, .bool false), (6, .bool false), (9, .bool false), (17, .bool true), (22, .bool false), (25, .bool false), (33, .bool true), (38, .bool false), (41, .bool true), (46, .bool false), (49, .bool false)] [67] [(67, .bool false)] [oF (p223 < 32), fun _ => (.bool (p223 == 127) : Value) = .bool false, oF (p223 ≥ 4352), oT (p223 ≥ 11904), oF (p223 ≤ 42191), oF (p223 ≥ 44032), oT (p223 ≥ 63744), oF (p223 ≤ 64255), oT (p223 ≥ 65281), oF (p223 ≤ 65376), oF (p223 ≥ 127744)] (fun w hs => ⟨cF (h335), congrArg Value.bool (beq_eq_false_iff_ne.2 h336), cF (h337), cT (h401), cF (h402), cF (h403), cT (h419), cF (h420), cT (h421), cF (h422), cF (h423)⟩) ?_
             refine at_thn (at_cond_f rfl (rfl) ?_)
             refine at_skip (at_thn (at_seq (at_reg0 [] [2] [(2, iV 1)] ?_)))
             refine at_thn (at_ret ?_)
             obtain rfl := Option.some.inj H
             exact at_done0 [iV 1] (.inl rfl) [.tmp 2] fun w hs => ⟨_, _, [], rfl, ⟨rfl, rfl⟩, hle, hs⟩
          ·
           rw [if_neg h421] at H
           by_cases h425 : p223 ≥ 127744
           ·
            rw [if_pos h425] at H
            refine at_reg1 [(2, .bool false), (6, .bool false), (9, .bool false), (17, .bool true), (22, .bool false), (25, .bool false), (33, .bool true), (38, .bool false), (41, .bool false), (49, .bool true)] [67] [(67, .bool (decide (p223 ≤ 129791)))] [oF (p223 < 32), fun _ => (.bool (p223 == 127) : Value) = .bool false, oF (p223 ≥ 4352), oT (p223 ≥ 11904), oF (p223 ≤ 42191), oF (p223 ≥ 44032), oT (p223 ≥ 63744), oF (p223 ≤ 64255), oF (p223 ≥ 65281), oT (p223 ≥ 127744)] (fun w hs => ⟨cF (h335), congrArg Value.bool (beq_eq_false_iff_ne.2 h336), cF (h337), cT (h401), cF (h402), cF (h403), cT (h419), cF (h420), cF (h421), cT (h425)⟩) ?_
            refine at_thn ?_
            by_cases h426 : p223 ≤ 129791
            ·
             rw [if_pos h426] at H
             refine at_cond_t rfl (decide_eq_true h426) ?_
             refine at_seq (at_reg0 [] [2] [(2, iV 2)] ?_)
             refine at_thn (at_ret (at_then_ret ?_))
             obtain rfl := Option.some.inj H
             exact at_done0 [iV 2] (.inl rfl) [.tmp 2] fun w hs => ⟨_, _, [], rfl, ⟨rfl, rfl⟩, hle, hs⟩
            ·
             rw [if_neg h426] at H
             refine at_cond_f rfl (decide_eq_false h426) ?_
             refine at_skip (at_thn (at_seq (at_reg0 [] [2] [(2, iV 1)] ?_)))
             refine at_thn (at_ret ?_)
             obtain rfl := Option.some.inj H
             exact at_done0 [iV 1] (.inl rfl) [.tmp 2] fun w hs => ⟨_, _, [], rfl, ⟨rfl, rfl⟩, hle, hs⟩
           ·
            rw [if_neg h425] at H
            refine at_reg1 [(2, .bool false), (6, .bool false), (9, .bool false), (17, .bool true), (22, .bool false), (25, .bool false), (33, .bool true), (38, .bool false), (41, .bool false), (49, .bool false)] [67] [(67, .bool false)] [oF (p223 < 32), fun _ => (.bool (p223 == 127) : Value) = .bool false, oF (p223 ≥ 4352), oT (p223 ≥ 11904), oF (p223 ≤ 42191), oF (p223 ≥ 44032), oT (p223 ≥ 63744), oF (p223 ≤ 64255), oF (p223 ≥ 65281), oF (p223 ≥ 127744)] (fun w hs => ⟨cF (h335), congrArg Value.bool (beq_eq_false_iff_ne.2 h336), cF (h337), cT (h401), cF (h402), cF (h403), cT (h419), cF (h420), cF (h421), cF (h425)⟩) ?_
            refine at_thn (at_cond_f rfl (rfl) ?_)
            refine at_skip (at_thn (at_seq (at_reg0 [] [2] [(2, iV 1)] ?_)))
            refine at_thn (at_ret ?_)
            obtain rfl := Option.some.inj H
            exact at_done0 [iV 1] (.inl rfl) [.tmp 2] fun w hs => ⟨_, _, [], rfl, ⟨rfl, rfl⟩, hle, hs⟩
        ·
         rw [if_neg h419] at H
         by_cases h427 : p223 ≥ 65281
         ·
          rw [if_pos h427] at H
          by_cases h428 : p223 ≤ 65376
          ·
           rw [if_pos h428] at H
           refine at_reg1 [(2, .bool false), (6, .bool false), (9, .bool false), (17, .bool true), (22, .bool false), (25, .bool false), (33, .bool false), (41, .bool true), (46, .bool true)] [67] [(67, .bool true)] [oF (p223 < 32), fun _ => (.bool (p223 == 127) : Value) = .bool false, oF (p223 ≥ 4352), oT (p223 ≥ 11904), oF (p223 ≤ 42191), oF (p223 ≥ 44032), oF (p223 ≥ 63744), oT (p223 ≥ 65281), oT (p223 ≤ 65376)] (fun w hs => ⟨cF (h335), congrArg Value.bool (beq_eq_false_iff_ne.2 h336), cF (h337), cT (h401), cF (h402), cF (h403), cF (h419), cT (h427), cT (h428)⟩) ?_
           refine at_thn (at_cond_t rfl (rfl) ?_)
           refine at_seq (at_reg0 [] [2] [(2, iV 2)] ?_)
           refine at_thn (at_ret (at_then_ret ?_))
           obtain rfl := Option.some.inj H
           exact at_done0 [iV 2] (.inl rfl) [.tmp 2] fun w hs => ⟨_, _, [], rfl, ⟨rfl, rfl⟩, hle, hs⟩
          ·
           rw [if_neg h428] at H
           by_cases h429 : p223 ≥ 127744
           ·
            rw [if_pos h429] at H
            refine at_reg1 [(2, .bool false), (6, .bool false), (9, .bool false), (17, .bool true), (22, .bool false), (25, .bool false), (33, .bool false), (41, .bool true), (46, .bool false), (49, .bool true)] [67] [(67, .bool (decide (p223 ≤ 129791)))] [oF (p223 < 32), fun _ => (.bool (p223 == 127) : Value) = .bool false, oF (p223 ≥ 4352), oT (p223 ≥ 11904), oF (p223 ≤ 42191), oF (p223 ≥ 44032), oF (p223 ≥ 63744), oT (p223 ≥ 65281), oF (p223 ≤ 65376), oT (p223 ≥ 127744)] (fun w hs => ⟨cF (h335), congrArg Value.bool (beq_eq_false_iff_ne.2 h336), cF (h337), cT (h401), cF (h402), cF (h403), cF (h419), cT (h427), cF (h428), cT (h429)⟩) ?_
            refine at_thn ?_
            by_cases h430 : p223 ≤ 129791
            ·
             rw [if_pos h430] at H
             refine at_cond_t rfl (decide_eq_true h430) ?_
             refine at_seq (at_reg0 [] [2] [(2, iV 2)] ?_)
             refine at_thn (at_ret (at_then_ret ?_))
             obtain rfl := Option.some.inj H
             exact at_done0 [iV 2] (.inl rfl) [.tmp 2] fun w hs => ⟨_, _, [], rfl, ⟨rfl, rfl⟩, hle, hs⟩
            ·
             rw [if_neg h430] at H
             refine at_cond_f rfl (decide_eq_false h430) ?_
             refine at_skip (at_thn (at_seq (at_reg0 [] [2] [(2, iV 1)] ?_)))
             refine at_thn (at_ret ?_)
             obtain rfl := Option.some.inj H
             exact at_done0 [iV 1] (.inl rfl) [.tmp 2] fun w hs => ⟨_, _, [], rfl, ⟨rfl, rfl⟩, hle, hs⟩
           ·
            rw [if_neg h429] at H
            refine at_reg1 [(2, .bool false), (6, .bool false), (9, .bool false), (17, .bool true), (22, .bool false), (25, .bool false), (33, .bool false), (41, .bool true), (46, .bool false), (49, .bool false)] [67] [(67, .bool false)] [oF (p223 < 32), fun _ => (.bool (p223 == 127) : Value) = .bool false, oF (p223 ≥ 4352), oT (p223 ≥ 11904), oF (p223 ≤ 42191), oF (p223 ≥ 44032), oF (p223 ≥ 63744), oT (p223 ≥ 65281), oF (p223 ≤ 65376), oF (p223 ≥ 127744)] (fun w hs => ⟨cF (h335), congrArg Value.bool (beq_eq_false_iff_ne.2 h336), cF (h337), cT (h401), cF (h402), cF (h403), cF (h419), cT (h427), cF (h428), cF (h429)⟩) ?_
            refine at_thn (at_cond_f rfl (rfl) ?_)
            refine at_skip (at_thn (at_seq (at_reg0 [] [2] [(2, iV 1)] ?_)))
            refine at_thn (at_ret ?_)
            obtain rfl := Option.some.inj H
            exact at_done0 [iV 1] (.inl rfl) [.tmp 2] fun w hs => ⟨_, _, [], rfl, ⟨rfl, rfl⟩, hle, hs⟩
         ·
          rw [if_neg h427] at H
          by_cases h431 : p223 ≥ 127744
          ·
           rw [if_pos h431] at H
           refine at_reg1 [(2, .bool false), (6, .bool false), (9, .bool false), (17, .bool true), (22, .bool false), (25, .bool false), (33, .bool false), (41, .bool false), (49, .bool true)] [67] [(67, .bool (decide (p223 ≤ 129791)))] [oF (p223 < 32), fun _ => (.bool (p223 == 127) : Value) = .bool false, oF (p223 ≥ 4352), oT (p223 ≥ 11904), oF (p223 ≤ 42191), oF (p223 ≥ 44032), oF (p223 ≥ 63744), oF (p223 ≥ 65281), oT (p223 ≥ 127744)] (fun w hs => ⟨cF (h335), congrArg Value.bool (beq_eq_false_iff_ne.2 h336), cF (h337), cT (h401), cF (h402), cF (h403), cF (h419), cF (h427), cT (h431)⟩) ?_
           refine at_thn ?_
           by_cases h432 : p223 ≤ 129791
           ·
            rw [if_pos h432] at H
            refine at_cond_t rfl (decide_eq_true h432) ?_
            refine at_seq (at_reg0 [] [2] [(2, iV 2)] ?_)
            refine at_thn (at_ret (at_then_ret ?_))
            obtain rfl := Option.some.inj H
            exact at_done0 [iV 2] (.inl rfl) [.tmp 2] fun w hs => ⟨_, _, [], rfl, ⟨rfl, rfl⟩, hle, hs⟩
           ·
            rw [if_neg h432] at H
            refine at_cond_f rfl (decide_eq_false h432) ?_
            refine at_skip (at_thn (at_seq (at_reg0 [] [2] [(2, iV 1)] ?_)))
            refine at_thn (at_ret ?_)
            obtain rfl := Option.some.inj H
            exact at_done0 [iV 1] (.inl rfl) [.tmp 2] fun w hs => ⟨_, _, [], rfl, ⟨rfl, rfl⟩, hle, hs⟩
          ·
           rw [if_neg h431] at H
           refine at_reg1 [(2, .bool false), (6, .bool false), (9, .bool false), (17, .bool true), (22, .bool false), (25, .bool false), (33, .bool false), (41, .bool false), (49, .bool false)] [67] [(67, .bool false)] [oF (p223 < 32), fun _ => (.bool (p223 == 127) : Value) = .bool false, oF (p223 ≥ 4352), oT (p223 ≥ 11904), oF (p223 ≤ 42191), oF (p223 ≥ 44032), oF (p223 ≥ 63744), oF (p223 ≥ 65281), oF (p223 ≥ 127744)] (fun w hs => ⟨cF (h335), congrArg Value.bool (beq_eq_false_iff_ne.2 h336), cF (h337), cT (h401), cF (h402), cF (h403), cF (h419), cF (h427), cF (h431)⟩) ?_
           refine at_thn (at_cond_f rfl (rfl) ?_)
           refine at_skip (at_thn (at_seq (at_reg0 [] [2] [(2, iV 1)] ?_)))
           refine at_thn (at_ret ?_)
           obtain rfl := Option.some.inj H
           exact at_done0 [iV 1] (.inl rfl) [.tmp 2] fun w hs => ⟨_, _, [], rfl, ⟨rfl, rfl⟩, hle, hs⟩
     ·
      rw [if_neg h401] at H
      by_cases h433 : p223 ≥ 44032
      ·
       rw [if_pos h433] at H
       by_cases h434 : p223 ≤ 55203
       ·
        rw [if_pos h434] at H
        refine at_reg1 [(2, .bool false), (6, .bool false), (9, .bool false), (17, .bool false), (25, .bool true), (30, .bool true)] [67] [(67, .bool true)] [oF (p223 < 32), fun _ => (.bool (p223 == 127) : Value) = .bool false, oF (p223 ≥ 4352), oF (p223 ≥ 11904), oT (p223 ≥ 44032), oT (p223 ≤ 55203)] (fun w hs => ⟨cF (h335), congrArg Value.bool (beq_eq_false_iff_ne.2 h336), cF (h337), cF (h401), cT (h433), cT (h434)⟩) ?_
        refine at_thn (at_cond_t rfl (rfl) ?_)
        refine at_seq (at_reg0 [] [2] [(2, iV 2)] ?_)
        refine at_thn (at_ret (at_then_ret ?_))
        obtain rfl := Option.some.inj H
        exact at_done0 [iV 2] (.inl rfl) [.tmp 2] fun w hs => ⟨_, _, [], rfl, ⟨rfl, rfl⟩, hle, hs⟩
       ·
        rw [if_neg h434] at H
        by_cases h435 : p223 ≥ 63744
        ·
         rw [if_pos h435] at H
         by_cases h436 : p223 ≤ 64255
         ·
          rw [if_pos h436] at H
          refine at_reg1 [(2, .bool false), (6, .bool false), (9, .bool false), (17, .bool false), (25, .bool true), (30, .bool false), (33, .bool true), (38, .bool true)] [67] [(67, .bool true)] [oF (p223 < 32), fun _ => (.bool (p223 == 127) : Value) = .bool false, oF (p223 ≥ 4352), oF (p223 ≥ 11904), oT (p223 ≥ 44032), oF (p223 ≤ 55203), oT (p223 ≥ 63744), oT (p223 ≤ 64255)] (fun w hs => ⟨cF (h335), congrArg Value.bool (beq_eq_false_iff_ne.2 h336), cF (h337), cF (h401), cT (h433), cF (h434), cT (h435), cT (h436)⟩) ?_
          refine at_thn (at_cond_t rfl (rfl) ?_)
          refine at_seq (at_reg0 [] [2] [(2, iV 2)] ?_)
          refine at_thn (at_ret (at_then_ret ?_))
          obtain rfl := Option.some.inj H
          exact at_done0 [iV 2] (.inl rfl) [.tmp 2] fun w hs => ⟨_, _, [], rfl, ⟨rfl, rfl⟩, hle, hs⟩
         ·
          rw [if_neg h436] at H
          by_cases h437 : p223 ≥ 65281
          ·
           rw [if_pos h437] at H
           by_cases h438 : p223 ≤ 65376
           ·
            rw [if_pos h438] at H
            refine at_reg1 [(2, .bool false), (6, .bool false), (9, .bool false), (17, .bool false), (25, .bool true), (30, .bool false), (33, .bool true), (38, .bool false), (41, .bool true), (46, .bool true)] [67] [(67, .bool true)] [oF (p223 < 32), fun _ => (.bool (p223 == 127) : Value) = .bool false, oF (p223 ≥ 4352), oF (p223 ≥ 11904), oT (p223 ≥ 44032), oF (p223 ≤ 55203), oT (p223 ≥ 63744), oF (p223 ≤ 64255), oT (p223 ≥ 65281), oT (p223 ≤ 65376)] (fun w hs => ⟨cF (h335), congrArg Value.bool (beq_eq_false_iff_ne.2 h336), cF (h337), cF (h401), cT (h433), cF (h434), cT (h435), cF (h436), cT (h437), cT (h438)⟩) ?_
            refine at_thn (at_cond_t rfl (rfl) ?_)
            refine at_seq (at_reg0 [] [2] [(2, iV 2)] ?_)
            refine at_thn (at_ret (at_then_ret ?_))
            obtain rfl := Option.some.inj H
            exact at_done0 [iV 2] (.inl rfl) [.tmp 2] fun w hs => ⟨_, _, [], rfl, ⟨rfl, rfl⟩, hle, hs⟩
           ·
            rw [if_neg h438] at H
            by_cases h439 : p223 ≥ 127744
            ·
             rw [if_pos h439] at H
             refine at_reg1 [(2, .bool false), (6, .bool false), (9, .bool false), (17, .bool false), (25, .bool true), (30, .bool false), (33, .bool true), (38, .bool false), (41, .bool true), (46, .bool false), (49, .bool true)] [67] [(67, .bool (decide (p223 ≤ 129791)))] [oF (p223 < 32), fun _ => (.bool (p223 == 127) : Value) = .bool false, oF (p223 ≥ 4352), oF (p223 ≥ 11904), oT (p223 ≥ 44032), oF (p223 ≤ 55203), oT (p223 ≥ 63744), oF (p223 ≤ 64255), oT (p223 ≥ 65281), oF (p223 ≤ 65376), oT (p223 ≥ 127744)] (fun w hs => ⟨cF (h335), congrArg Value.bool (beq_eq_false_iff_ne.2 h336), cF (h337), cF (h401), cT (h433), cF (h434), cT (h435), cF (h436), cT (h437), cF (h438), cT (h439)⟩) ?_
             refine at_thn ?_
             by_cases h440 : p223 ≤ 129791
             ·
              rw [if_pos h440] at H
              refine at_cond_t rfl (decide_eq_true h440) ?_
              refine at_seq (at_reg0 [] [2] [(2, iV 2)] ?_)
              refine at_thn (at_ret (at_then_ret ?_))
              obtain rfl := Option.some.inj H
              exact at_done0 [iV 2] (.inl rfl) [.tmp 2] fun w hs => ⟨_, _, [], rfl, ⟨rfl, rfl⟩, hle, hs⟩
             ·
              rw [if_neg h440] at H
              refine at_cond_f rfl (decide_eq_false h440) ?_
              refine at_skip (at_thn (at_seq (at_reg0 [] [2] [(2, iV 1)] ?_)))
              refine at_thn (at_ret ?_)
              obtain rfl := Option.some.inj H
              exact at_done0 [iV 1] (.inl rfl) [.tmp 2] fun w hs => ⟨_, _, [], rfl, ⟨rfl, rfl⟩, hle, hs⟩
            ·
             rw [if_neg h439] at H
             refine at_reg1 [(2, .bool false), (6, .bool false), (9, .bool false), (17, .bool false), (25, .bool true), (30, .bool false), (33, .bool true), (38, .bool false), (41, .bool true), (46, .bool false), (49, .bool false)] [67] [(67, .bool false)] [oF (p223 < 32), fun _ => (.bool (p223 == 127) : Value) = .bool false, oF (p223 ≥ 4352), oF (p223 ≥ 11904), oT (p223 ≥ 44032), oF (p223 ≤ 55203), oT (p223 ≥ 63744), oF (p223 ≤ 64255), oT (p223 ≥ 65281), oF (p223 ≤ 65376), oF (p223 ≥ 127744)] (fun w hs => ⟨cF (h335), congrArg Value.bool (beq_eq_false_iff_ne.2 h336), cF (h337), cF (h401), cT (h433), cF (h434), cT (h435), cF (h436), cT (h437), cF (h438), cF (h439)⟩) ?_
             refine at_thn (at_cond_f rfl (rfl) ?_)
             refine at_skip (at_thn (at_seq (at_reg0 [] [2] [(2, iV 1)] ?_)))
             refine at_thn (at_ret ?_)
             obtain rfl := Option.some.inj H
             exact at_done0 [iV 1] (.inl rfl) [.tmp 2] fun w hs => ⟨_, _, [], rfl, ⟨rfl, rfl⟩, hle, hs⟩
          ·
           rw [if_neg h437] at H
           by_cases h441 : p223 ≥ 127744
           ·
            rw [if_pos h441] at H
            refine at_reg1 [(2, .bool false), (6, .bool false), (9, .bool false), (17, .bool false), (25, .bool true), (30, .bool false), (33, .bool true), (38, .bool false), (41, .bool false), (49, .bool true)] [67] [(67, .bool (decide (p223 ≤ 129791)))] [oF (p223 < 32), fun _ => (.bool (p223 == 127) : Value) = .bool false, oF (p223 ≥ 4352), oF (p223 ≥ 11904), oT (p223 ≥ 44032), oF (p223 ≤ 55203), oT (p223 ≥ 63744), oF (p223 ≤ 64255), oF (p223 ≥ 65281), oT (p223 ≥ 127744)] (fun w hs => ⟨cF (h335), congrArg Value.bool (beq_eq_false_iff_ne.2 h336), cF (h337), cF (h401), cT (h433), cF (h434), cT (h435), cF (h436), cF (h437), cT (h441)⟩) ?_
            refine at_thn ?_
            by_cases h442 : p223 ≤ 129791
            ·
             rw [if_pos h442] at H
             refine at_cond_t rfl (decide_eq_true h442) ?_
             refine at_seq (at_reg0 [] [2] [(2, iV 2)] ?_)
             refine at_thn (at_ret (at_then_ret ?_))
             obtain rfl := Option.some.inj H
             exact at_done0 [iV 2] (.inl rfl) [.tmp 2] fun w hs => ⟨_, _, [], rfl, ⟨rfl, rfl⟩, hle, hs⟩
            ·
             rw [if_neg h442] at H
             refine at_cond_f rfl (decide_eq_false h442) ?_
             refine at_skip (at_thn (at_seq (at_reg0 [] [2] [(2, iV 1)] ?_)))
             refine at_thn (at_ret ?_)
             obtain rfl := Option.some.inj H
             exact at_done0 [iV 1] (.inl rfl) [.tmp 2] fun w hs => ⟨_, _, [], rfl, ⟨rfl, rfl⟩, hle, hs⟩
           ·
            rw [if_neg h441] at H
            refine at_reg1 [(2, .bool false), (6, .bool false), (9, .bool false), (17, .bool false), (25, .bool true), (30, .bool false), (33, .bool true), (38, .bool false), (41, .bool false), (49, .bool false)] [67] [(67, .bool false)] [oF (p223 < 32), fun _ => (.bool (p223 == 127) : Value) = .bool false, oF (p223 ≥ 4352), oF (p223 ≥ 11904), oT (p223 ≥ 44032), oF (p223 ≤ 55203), oT (p223 ≥ 63744), oF (p223 ≤ 64255), oF (p223 ≥ 65281), oF (p223 ≥ 127744)] (fun w hs => ⟨cF (h335), congrArg Value.bool (beq_eq_false_iff_ne.2 h336), cF (h337), cF (h401), cT (h433), cF (h434), cT (h435), cF (h436), cF (h437), cF (h441)⟩) ?_
            refine at_thn (at_cond_f rfl (rfl) ?_)
            refine at_skip (at_thn (at_seq (at_reg0 [] [2] [(2, iV 1)] ?_)))
            refine at_thn (at_ret ?_)
            obtain rfl := Option.some.inj H
            exact at_done0 [iV 1] (.inl rfl) [.tmp 2] fun w hs => ⟨_, _, [], rfl, ⟨rfl, rfl⟩, hle, hs⟩
        ·
         rw [if_neg h435] at H
         by_cases h443 : p223 ≥ 65281
         ·
          rw [if_pos h443] at H
          by_cases h444 : p223 ≤ 65376
          ·
           rw [if_pos h444] at H
           refine at_reg1 [(2, .bool false), (6, .bool false), (9, .bool false), (17, .bool false), (25, .bool true), (30, .bool false), (33, .bool false), (41, .bool true), (46, .bool true)] [67] [(67, .bool true)] [oF (p223 < 32), fun _ => (.bool (p223 == 127) : Value) = .bool false, oF (p223 ≥ 4352), oF (p223 ≥ 11904), oT (p223 ≥ 44032), oF (p223 ≤ 55203), oF (p223 ≥ 63744), oT (p223 ≥ 65281), oT (p223 ≤ 65376)] (fun w hs => ⟨cF (h335), congrArg Value.bool (beq_eq_false_iff_ne.2 h336), cF (h337), cF (h401), cT (h433), cF (h434), cF (h435), cT (h443), cT (h444)⟩) ?_
           refine at_thn (at_cond_t rfl (rfl) ?_)
           refine at_seq (at_reg0 [] [2] [(2, iV 2)] ?_)
           refine at_thn (at_ret (at_then_ret ?_))
           obtain rfl := Option.some.inj H
           exact at_done0 [iV 2] (.inl rfl) [.tmp 2] fun w hs => ⟨_, _, [], rfl, ⟨rfl, rfl⟩, hle, hs⟩
          ·
           rw [if_neg h444] at H
           by_cases h445 : p223 ≥ 127744
           ·
            rw [if_pos h445] at H
            refine at_reg1 [(2, .bool false), (6, .bool false), (9, .bool false), (17, .bool false), (25, .bool true), (30, .bool false), (33, .bool false), (41, .bool true), (46, .bool false), (49, .bool true)] [67] [(67, .bool (decide (p223 ≤ 129791)))] [oF (p223 < 32), fun _ => (.bool (p223 == 127) : Value) = .bool false, oF (p223 ≥ 4352), oF (p223 ≥ 11904), oT (p223 ≥ 44032), oF (p223 ≤ 55203), oF (p223 ≥ 63744), oT (p223 ≥ 65281), oF (p223 ≤ 65376), oT (p223 ≥ 127744)] (fun w hs => ⟨cF (h335), congrArg Value.bool (beq_eq_false_iff_ne.2 h336), cF (h337), cF (h401), cT (h433), cF (h434), cF (h435), cT (h443), cF (h444), cT (h445)⟩) ?_
            refine at_thn ?_
            by_cases h446 : p223 ≤ 129791
            ·
             rw [if_pos h446] at H
             refine at_cond_t rfl (decide_eq_true h446) ?_
             refine at_seq (at_reg0 [] [2] [(2, iV 2)] ?_)
             refine at_thn (at_ret (at_then_ret ?_))
             obtain rfl := Option.some.inj H
             exact at_done0 [iV 2] (.inl rfl) [.tmp 2] fun w hs => ⟨_, _, [], rfl, ⟨rfl, rfl⟩, hle, hs⟩
            ·
             rw [if_neg h446] at H
             refine at_cond_f rfl (decide_eq_false h446) ?_
             refine at_skip (at_thn (at_seq (at_reg0 [] [2] [(2, iV 1)] ?_)))
             refine at_thn (at_ret ?_)
             obtain rfl := Option.some.inj H
             exact at_done0 [iV 1] (.inl rfl) [.tmp 2] fun w hs => ⟨_, _, [], rfl, ⟨rfl, rfl⟩, hle, hs⟩
           ·
            rw [if_neg h445] at H
            refine at_reg1 [(2, .bool false), (6, .bool false), (9, .bool false), (17, .bool false), (25, .bool true), (30, .bool false), (33, .bool false), (41, .bool true), (46, .bool false), (49, .bool false)] [67] [(67, .bool false)] [oF (p223 < 32), fun _ => (.bool (p223 == 127) : Value) = .bool false, oF (p223 ≥ 4352), oF (p223 ≥ 11904), oT (p223 ≥ 44032), oF (p223 ≤ 55203), oF (p223 ≥ 63744), oT (p223 ≥ 65281), oF (p223 ≤ 65376), oF (p223 ≥ 127744)] (fun w hs => ⟨cF (h335), congrArg Value.bool (beq_eq_false_iff_ne.2 h336), cF (h337), cF (h401), cT (h433), cF (h434), cF (h435), cT (h443), cF (h444), cF (h445)⟩) ?_
            refine at_thn (at_cond_f rfl (rfl) ?_)
            refine at_skip (at_thn (at_seq (at_reg0 [] [2] [(2, iV 1)] ?_)))
            refine at_thn (at_ret ?_)
            obtain rfl := Option.some.inj H
            exact at_done0 [iV 1] (.inl rfl) [.tmp 2] fun w hs => ⟨_, _, [], rfl, ⟨rfl, rfl⟩, hle, hs⟩
         ·
          rw [if_neg h443] at H
          by_cases h447 : p223 ≥ 127744
          ·
           rw [if_pos h447] at H
           refine at_reg1 [(2, .bool false), (6, .bool false), (9, .bool false), (17, .bool false), (25, .bool true), (30, .bool false), (33, .bool false), (41, .bool false), (49, .bool true)] [67] [(67, .bool (decide (p223 ≤ 129791)))] [oF (p223 < 32), fun _ => (.bool (p223 == 127) : Value) = .bool false, oF (p223 ≥ 4352), oF (p223 ≥ 11904), oT (p223 ≥ 44032), oF (p223 ≤ 55203), oF (p223 ≥ 63744), oF (p223 ≥ 65281), oT (p223 ≥ 127744)] (fun w hs => ⟨cF (h335), congrArg Value.bool (beq_eq_false_iff_ne.2 h336), cF (h337), cF (h401), cT (h433), cF (h434), cF (h435), cF (h443), cT (h447)⟩) ?_
           refine at_thn ?_
           by_cases h448 : p223 ≤ 129791
           ·
            rw [if_pos h448] at H
            refine at_cond_t rfl (decide_eq_true h448) ?_
            refine at_seq (at_reg0 [] [2] [(2, iV 2)] ?_)
            refine at_thn (at_ret (at_then_ret ?_))
            obtain rfl := Option.some.inj H
            exact at_done0 [iV 2] (.inl rfl) [.tmp 2] fun w hs => ⟨_, _, [], rfl, ⟨rfl, rfl⟩, hle, hs⟩
           ·
            rw [if_neg h448] at H
            refine at_cond_f rfl (decide_eq_false h448) ?_
            refine at_skip (at_thn (at_seq (at_reg0 [] [2] [(2, iV 1)] ?_)))
            refine at_thn (at_ret ?_)
            obtain rfl := Option.some.inj H
            exact at_done0 [iV 1] (.inl rfl) [.tmp 2] fun w hs => ⟨_, _, [], rfl, ⟨rfl, rfl⟩, hle, hs⟩
          ·
           rw [if_neg h447] at H
           refine at_reg1 [(2, .bool false), (6, .bool false), (9, .bool false), (17, .bool false), (25, .bool true), (30, .bool false), (33, .bool false), (41, .bool false), (49, .bool false)] [67] [(67, .bool false)] [oF (p223 < 32), fun _ => (.bool (p223 == 127) : Value) = .bool false, oF (p223 ≥ 4352), oF (p223 ≥ 11904), oT (p223 ≥ 44032), oF (p223 ≤ 55203), oF (p223 ≥ 63744), oF (p223 ≥ 65281), oF (p223 ≥ 127744)] (fun w hs => ⟨cF (h335), congrArg Value.bool (beq_eq_false_iff_ne.2 h336), cF (h337), cF (h401), cT (h433), cF (h434), cF (h435), cF (h443), cF (h447)⟩) ?_
           refine at_thn (at_cond_f rfl (rfl) ?_)
           refine at_skip (at_thn (at_seq (at_reg0 [] [2] [(2, iV 1)] ?_)))
           refine at_thn (at_ret ?_)
           obtain rfl := Option.some.inj H
           exact at_done0 [iV 1] (.inl rfl) [.tmp 2] fun w hs => ⟨_, _, [], rfl, ⟨rfl, rfl⟩, hle, hs⟩
      ·
       rw [if_neg h433] at H
       by_cases h449 : p223 ≥ 63744
       ·
        rw [if_pos h449] at H
        by_cases h450 : p223 ≤ 64255
        ·
         rw [if_pos h450] at H
         refine at_reg1 [(2, .bool false), (6, .bool false), (9, .bool false), (17, .bool false), (25, .bool false), (33, .bool true), (38, .bool true)] [67] [(67, .bool true)] [oF (p223 < 32), fun _ => (.bool (p223 == 127) : Value) = .bool false, oF (p223 ≥ 4352), oF (p223 ≥ 11904), oF (p223 ≥ 44032), oT (p223 ≥ 63744), oT (p223 ≤ 64255)] (fun w hs => ⟨cF (h335), congrArg Value.bool (beq_eq_false_iff_ne.2 h336), cF (h337), cF (h401), cF (h433), cT (h449), cT (h450)⟩) ?_
         refine at_thn (at_cond_t rfl (rfl) ?_)
         refine at_seq (at_reg0 [] [2] [(2, iV 2)] ?_)
         refine at_thn (at_ret (at_then_ret ?_))
         obtain rfl := Option.some.inj H
         exact at_done0 [iV 2] (.inl rfl) [.tmp 2] fun w hs => ⟨_, _, [], rfl, ⟨rfl, rfl⟩, hle, hs⟩
        ·
         rw [if_neg h450] at H
         by_cases h451 : p223 ≥ 65281
         ·
          rw [if_pos h451] at H
          by_cases h452 : p223 ≤ 65376
          ·
           rw [if_pos h452] at H
           refine at_reg1 [(2, .bool false), (6, .bool false), (9, .bool false), (17, .bool false), (25, .bool false), (33, .bool true), (38, .bool false), (41, .bool true), (46, .bool true)] [67] [(67, .bool true)] [oF (p223 < 32), fun _ => (.bool (p223 == 127) : Value) = .bool false, oF (p223 ≥ 4352), oF (p223 ≥ 11904), oF (p223 ≥ 44032), oT (p223 ≥ 63744), oF (p223 ≤ 64255), oT (p223 ≥ 65281), oT (p223 ≤ 65376)] (fun w hs => ⟨cF (h335), congrArg Value.bool (beq_eq_false_iff_ne.2 h336), cF (h337), cF (h401), cF (h433), cT (h449), cF (h450), cT (h451), cT (h452)⟩) ?_
           refine at_thn (at_cond_t rfl (rfl) ?_)
           refine at_seq (at_reg0 [] [2] [(2, iV 2)] ?_)
           refine at_thn (at_ret (at_then_ret ?_))
           obtain rfl := Option.some.inj H
           exact at_done0 [iV 2] (.inl rfl) [.tmp 2] fun w hs => ⟨_, _, [], rfl, ⟨rfl, rfl⟩, hle, hs⟩
          ·
           rw [if_neg h452] at H
           by_cases h453 : p223 ≥ 127744
           ·
            rw [if_pos h453] at H
            refine at_reg1 [(2, .bool false), (6, .bool false), (9, .bool false), (17, .bool false), (25, .bool false), (33, .bool true), (38, .bool false), (41, .bool true), (46, .bool false), (49, .bool true)] [67] [(67, .bool (decide (p223 ≤ 129791)))] [oF (p223 < 32), fun _ => (.bool (p223 == 127) : Value) = .bool false, oF (p223 ≥ 4352), oF (p223 ≥ 11904), oF (p223 ≥ 44032), oT (p223 ≥ 63744), oF (p223 ≤ 64255), oT (p223 ≥ 65281), oF (p223 ≤ 65376), oT (p223 ≥ 127744)] (fun w hs => ⟨cF (h335), congrArg Value.bool (beq_eq_false_iff_ne.2 h336), cF (h337), cF (h401), cF (h433), cT (h449), cF (h450), cT (h451), cF (h452), cT (h453)⟩) ?_
            refine at_thn ?_
            by_cases h454 : p223 ≤ 129791
            ·
             rw [if_pos h454] at H
             refine at_cond_t rfl (decide_eq_true h454) ?_
             refine at_seq (at_reg0 [] [2] [(2, iV 2)] ?_)
             refine at_thn (at_ret (at_then_ret ?_))
             obtain rfl := Option.some.inj H
             exact at_done0 [iV 2] (.inl rfl) [.tmp 2] fun w hs => ⟨_, _, [], rfl, ⟨rfl, rfl⟩, hle, hs⟩
            ·
             rw [if_neg h454] at H
             refine at_cond_f rfl (decide_eq_false h454) ?_
             refine at_skip (at_thn (at_seq (at_reg0 [] [2] [(2, iV 1)] ?_)))
             refine at_thn (at_ret ?_)
             obtain rfl := Option.some.inj H
             exact at_done0 [iV 1] (.inl rfl) [.tmp 2] fun w hs => ⟨_, _, [], rfl, ⟨rfl, rfl⟩, hle, hs⟩
           ·
            rw [if_neg h453] at H
            refine at_reg1 [(2, .bool false), (6, .bool false), (9, .bool false), (17, .bool false), (25, .bool false), (33, .bool true), (38, .bool false), (41, .bool true), (46, .bool false), (49, .bool false)] [67] [(67, .bool false)] [oF (p223 < 32), fun _ => (.bool (p223 == 127) : Value) = .bool false, oF (p223 ≥ 4352), oF (p223 ≥ 11904), oF (p223 ≥ 44032), oT (p223 ≥ 63744), oF (p223 ≤ 64255), oT (p223 ≥ 65281), oF (p223 ≤ 65376), oF (p223 ≥ 127744)] (fun w hs => ⟨cF (h335), congrArg Value.bool (beq_eq_false_iff_ne.2 h336), cF (h337), cF (h401), cF (h433), cT (h449), cF (h450), cT (h451), cF (h452), cF (h453)⟩) ?_
            refine at_thn (at_cond_f rfl (rfl) ?_)
            refine at_skip (at_thn (at_seq (at_reg0 [] [2] [(2, iV 1)] ?_)))
            refine at_thn (at_ret ?_)
            obtain rfl := Option.some.inj H
            exact at_done0 [iV 1] (.inl rfl) [.tmp 2] fun w hs => ⟨_, _, [], rfl, ⟨rfl, rfl⟩, hle, hs⟩
         ·
          rw [if_neg h451] at H
          by_cases h455 : p223 ≥ 127744
          ·
           rw [if_pos h455] at H
           refine at_reg1 [(2, .bool false), (6, .bool false), (9, .bool false), (17, .bool false), (25, .bool false), (33, .bool true), (38, .bool false), (41, .bool false), (49, .bool true)] [67] [(67, .bool (decide (p223 ≤ 129791)))] [oF (p223 < 32), fun _ => (.bool (p223 == 127) : Value) = .bool false, oF (p223 ≥ 4352), oF (p223 ≥ 11904), oF (p223 ≥ 44032), oT (p223 ≥ 63744), oF (p223 ≤ 64255), oF (p223 ≥ 65281), oT (p223 ≥ 127744)] (fun w hs => ⟨cF (h335), congrArg Value.bool (beq_eq_false_iff_ne.2 h336), cF (h337), cF (h401), cF (h433), cT (h449), cF (h450), cF (h451), cT (h455)⟩) ?_
           refine at_thn ?_
           by_cases h456 : p223 ≤ 129791
           ·
            rw [if_pos h456] at H
            refine at_cond_t rfl (decide_eq_true h456) ?_
            refine at_seq (at_reg0 [] [2] [(2, iV 2)] ?_)
            refine at_thn (at_ret (at_then_ret ?_))
            obtain rfl := Option.some.inj H
            exact at_done0 [iV 2] (.inl rfl) [.tmp 2] fun w hs => ⟨_, _, [], rfl, ⟨rfl, rfl⟩, hle, hs⟩
           ·
            rw [if_neg h456] at H
            refine at_cond_f rfl (decide_eq_false h456) ?_
            refine at_skip (at_thn (at_seq (at_reg0 [] [2] [(2, iV 1)] ?_)))
            refine at_thn (at_ret ?_)
            obtain rfl := Option.some.inj H
            exact at_done0 [iV 1] (.inl rfl) [.tmp 2] fun w hs => ⟨_, _, [], rfl, ⟨rfl, rfl⟩, hle, hs⟩
          ·
           rw [if_neg h455] at H
           refine at_reg1 [(2, .bool false), (6, .bool false), (9, .bool false), (17, .bool false), (25, .bool false), (33, .bool true), (38, .bool false), (41, .bool false), (49, .bool false)] [67] [(67, .bool false)] [oF (p223 < 32), fun _ => (.bool (p223 == 127) : Value) = .bool false, oF (p223 ≥ 4352), oF (p223 ≥ 11904), oF (p223 ≥ 44032), oT (p223 ≥ 63744), oF (p223 ≤ 64255), oF (p223 ≥ 65281), oF (p223 ≥ 127744)] (fun w hs => ⟨cF (h335), congrArg Value.bool (beq_eq_false_iff_ne.2 h336), cF (h337), cF (h401), cF (h433), cT (h449), cF (h450), cF (h451), cF (h455)⟩) ?_
           refine at_thn (at_cond_f rfl (rfl) ?_)
           refine at_skip (at_thn (at_seq (at_reg0 [] [2] [(2, iV 1)] ?_)))
           refine at_thn (at_ret ?_)
           obtain rfl := Option.some.inj H
           exact at_done0 [iV 1] (.inl rfl) [.tmp 2] fun w hs => ⟨_, _, [], rfl, ⟨rfl, rfl⟩, hle, hs⟩
       ·
        rw [if_neg h449] at H
        by_cases h457 : p223 ≥ 65281
        ·
         rw [if_pos h457] at H
         by_cases h458 : p223 ≤ 65376
         ·
          rw [if_pos h458] at H
          refine at_reg1 [(2, .bool false), (6, .bool false), (9, .bool false), (17, .bool false), (25, .bool false), (33, .bool false), (41, .bool true), (46, .bool true)] [67] [(67, .bool true)] [oF (p223 < 32), fun _ => (.bool (p223 == 127) : Value) = .bool false, oF (p223 ≥ 4352), oF (p223 ≥ 11904), oF (p223 ≥ 44032), oF (p223 ≥ 63744), oT (p223 ≥ 65281), oT (p223 ≤ 65376)] (fun w hs => ⟨cF (h335), congrArg Value.bool (beq_eq_false_iff_ne.2 h336), cF (h337), cF (h401), cF (h433), cF (h449), cT (h457), cT (h458)⟩) ?_
          refine at_thn (at_cond_t rfl (rfl) ?_)
          refine at_seq (at_reg0 [] [2] [(2, iV 2)] ?_)
          refine at_thn (at_ret (at_then_ret ?_))
          obtain rfl := Option.some.inj H
          exact at_done0 [iV 2] (.inl rfl) [.tmp 2] fun w hs => ⟨_, _, [], rfl, ⟨rfl, rfl⟩, hle, hs⟩
         ·
          rw [if_neg h458] at H
          by_cases h459 : p223 ≥ 127744
          ·
           rw [if_pos h459] at H
           refine at_reg1 [(2, .bool false), (6, .bool false), (9, .bool false), (17, .bool false), (25, .bool false), (33, .bool false), (41, .bool true), (46, .bool false), (49, .bool true)] [67] [(67, .bool (decide (p223 ≤ 129791)))] [oF (p223 < 32), fun _ => (.bool (p223 == 127) : Value) = .bool false, oF (p223 ≥ 4352), oF (p223 ≥ 11904), oF (p223 ≥ 44032), oF (p223 ≥ 63744), oT (p223 ≥ 65281), oF (p223 ≤ 65376), oT (p223 ≥ 127744)] (fun w hs => ⟨cF (h335), congrArg Value.bool (beq_eq_false_iff_ne.2 h336), cF (h337), cF (h401), cF (h433), cF (h449), cT (h457), cF (h458), cT (h459)⟩) ?_
           refine at_thn ?_
           by_cases h460 : p223 ≤ 129791
           ·
            rw [if_pos h460] at H
            refine at_cond_t rfl (decide_eq_true h460) ?_
            refine at_seq (at_reg0 [] [2] [(2, iV 2)] ?_)
            refine at_thn (at_ret (at_then_ret ?_))
            obtain rfl := Option.some.inj H
            exact at_done0 [iV 2] (.inl rfl) [.tmp 2] fun w hs => ⟨_, _, [], rfl, ⟨rfl, rfl⟩, hle, hs⟩
           ·
            rw [if_neg h460] at H
            refine at_cond_f rfl (decide_eq_false h460) ?_
            refine at_skip (at_thn (at_seq (at_reg0 [] [2] [(2, iV 1)] ?_)))
            refine at_thn (at_ret ?_)
            obtain rfl := Option.some.inj H
            exact at_done0 [iV 1] (.inl rfl) [.tmp 2] fun w hs => ⟨_, _, [], rfl, ⟨rfl, rfl⟩, hle, hs⟩
          ·
           rw [if_neg h459] at H
           refine at_reg1 [(2, .bool false), (6, .bool false), (9, .bool false), (17, .bool false), (25, .bool false), (33, .bool false), (41, .bool true), (46, .bool false), (49, .bool false)] [67] [(67, .bool false)] [oF (p223 < 32), fun _ => (.bool (p223 == 127) : Value) = .bool false, oF (p223 ≥ 4352), oF (p223 ≥ 11904), oF (p223 ≥ 44032), oF (p223 ≥ 63744), oT (p223 ≥ 65281), oF (p223 ≤ 65376), oF (p223 ≥ 127744)] (fun w hs => ⟨cF (h335), congrArg Value.bool (beq_eq_false_iff_ne.2 h336), cF (h337), cF (h401), cF (h433), cF (h449), cT (h457), cF (h458), cF (h459)⟩) ?_
           refine at_thn (at_cond_f rfl (rfl) ?_)
           refine at_skip (at_thn (at_seq (at_reg0 [] [2] [(2, iV 1)] ?_)))
           refine at_thn (at_ret ?_)
           obtain rfl := Option.some.inj H
           exact at_done0 [iV 1] (.inl rfl) [.tmp 2] fun w hs => ⟨_, _, [], rfl, ⟨rfl, rfl⟩, hle, hs⟩
        ·
         rw [if_neg h457] at H
         by_cases h461 : p223 ≥ 127744
         ·
          rw [if_pos h461] at H
          refine at_reg1 [(2, .bool false), (6, .bool false), (9, .bool false), (17, .bool false), (25, .bool false), (33, .bool false), (41, .bool false), (49, .bool true)] [67] [(67, .bool (decide (p223 ≤ 129791)))] [oF (p223 < 32), fun _ => (.bool (p223 == 127) : Value) = .bool false, oF (p223 ≥ 4352), oF (p223 ≥ 11904), oF (p223 ≥ 44032), oF (p223 ≥ 63744), oF (p223 ≥ 65281), oT (p223 ≥ 127744)] (fun w hs => ⟨cF (h335), congrArg Value.bool (beq_eq_false_iff_ne.2 h336), cF (h337), cF (h401), cF (h433), cF (h449), cF (h457), cT (h461)⟩) ?_
          refine at_thn ?_
          by_cases h462 : p223 ≤ 129791
          ·
           rw [if_pos h462] at H
           refine at_cond_t rfl (decide_eq_true h462) ?_
           refine at_seq (at_reg0 [] [2] [(2, iV 2)] ?_)
           refine at_thn (at_ret (at_then_ret ?_))
           obtain rfl := Option.some.inj H
           exact at_done0 [iV 2] (.inl rfl) [.tmp 2] fun w hs => ⟨_, _, [], rfl, ⟨rfl, rfl⟩, hle, hs⟩
          ·
           rw [if_neg h462] at H
           refine at_cond_f rfl (decide_eq_false h462) ?_
           refine at_skip (at_thn (at_seq (at_reg0 [] [2] [(2, iV 1)] ?_)))
           refine at_thn (at_ret ?_)
           obtain rfl := Option.some.inj H
           exact at_done0 [iV 1] (.inl rfl) [.tmp 2] fun w hs => ⟨_, _, [], rfl, ⟨rfl, rfl⟩, hle, hs⟩
         ·
          rw [if_neg h461] at H
          refine at_reg1 [(2, .bool false), (6, .bool false), (9, .bool false), (17, .bool false), (25, .bool false), (33, .bool false), (41, .bool false), (49, .bool false)] [67] [(67, .bool false)] [oF (p223 < 32), fun _ => (.bool (p223 == 127) : Value) = .bool false, oF (p223 ≥ 4352), oF (p223 ≥ 11904), oF (p223 ≥ 44032), oF (p223 ≥ 63744), oF (p223 ≥ 65281), oF (p223 ≥ 127744)] (fun w hs => ⟨cF (h335), congrArg Value.bool (beq_eq_false_iff_ne.2 h336), cF (h337), cF (h401), cF (h433), cF (h449), cF (h457), cF (h461)⟩) ?_
          refine at_thn (at_cond_f rfl (rfl) ?_)
          refine at_skip (at_thn (at_seq (at_reg0 [] [2] [(2, iV 1)] ?_)))
          refine at_thn (at_ret ?_)
          obtain rfl := Option.some.inj H
          exact at_done0 [iV 1] (.inl rfl) [.tmp 2] fun w hs => ⟨_, _, [], rfl, ⟨rfl, rfl⟩, hle, hs⟩
 ·
  intro Jn224
  refine at_seq (at_ops [0, 1, 2, 3, 4, 5, 6, 7, 8, 9, 10] rfl ?_)
  refine at_seg0 [0] [1, 2, 3, 4, 5, 6, 7, 8, 9, 10] [] [0, 3] [(0, iV p223), (3, iV p223)] ?_
  refine at_eff rfl rfl ?_
  obtain ⟨b8, H224, H⟩ := bind_some H
  have hm_ := spec_l01Point.calls (I0 := I0) H224
  refine eff_call rfl rfl ok49 rfl rfl (show Meets Try.prog 49 ([iV p223] : List Value).toArray _ [] _ from hm_) (Mr := (Fs)) (List.Perm.refl _) (fun v225 J226 M227 hq228 hJ229 => ?_)
  replace hle := hle.trans hJ229
  obtain ⟨rfl, rfl⟩ := hq228
  by_cases h230 : b8 = true
  ·
   rw [if_pos h230] at H
   by_cases h231 : p223 ≥ 768
   ·
    rw [if_pos h231] at H
    refine at_seg1 [2, 3, 4, 5, 6, 7, 8, 9, 10] [] [(3, .bool false), (6, .bool true)] [0, 13] [(0, iV p223), (13, .bool (decide (p223 ≤ 879)))] [fun _ => (.bool (!b8) : Value) = .bool false, oT (p223 ≥ 768)] (fun w hs => ⟨congrArg Value.bool (not_ff (h230)), cT (h231)⟩) ?_
    refine at_end (at_thn ?_)
    by_cases h232 : p223 ≤ 879
    ·
     rw [if_pos h232] at H
     refine at_cond_t rfl (decide_eq_true h232) ?_
     refine at_seq (at_reg0 [] [2] [(2, iV 0)] ?_)
     refine at_thn (at_ret (at_then_ret ?_))
     obtain rfl := Option.some.inj H
     exact at_done0 [iV 0] (.inl rfl) [.tmp 2] fun w hs => ⟨_, _, [], rfl, ⟨rfl, rfl⟩, hle, hs⟩
    ·
     rw [if_neg h232] at H
     refine at_cond_f rfl (decide_eq_false h232) ?_
     refine at_skip (at_thn (at_keep [0] (L2 := [(0, iV p223)]) rfl ?_))
     exact Jn224 _ _ _ ⟨_, rfl, rfl, H, hle, by omega⟩
   ·
    rw [if_neg h231] at H
    refine at_seg1 [2, 3, 4, 5, 6, 7, 8, 9, 10] [] [(3, .bool false), (6, .bool false)] [0, 13] [(0, iV p223), (13, .bool false)] [fun _ => (.bool (!b8) : Value) = .bool false, oF (p223 ≥ 768)] (fun w hs => ⟨congrArg Value.bool (not_ff (h230)), cF (h231)⟩) ?_
    refine at_end (at_thn (at_cond_f rfl (rfl) ?_))
    refine at_skip (at_thn (at_keep [0] (L2 := [(0, iV p223)]) rfl ?_))
    exact Jn224 _ _ _ ⟨_, rfl, rfl, H, hle, by omega⟩
  ·
   rw [if_neg h230] at H
   refine at_seg1 [2, 3, 4, 5, 6, 7, 8, 9, 10] [] [(3, .bool true)] [0, 13] [(0, iV p223), (13, .bool true)] [fun _ => (.bool (!b8) : Value) = .bool true] (fun w hs => congrArg Value.bool (not_tt (ff_of h230))) ?_
   refine at_end (at_thn (at_cond_t rfl (rfl) ?_))
   refine at_seq (at_reg0 [] [2] [(2, iV 0)] ?_)
   refine at_thn (at_ret (at_then_ret ?_))
   obtain rfl := Option.some.inj H
   exact at_done0 [iV 0] (.inl rfl) [.tmp 2] fun w hs => ⟨_, _, [], rfl, ⟨rfl, rfl⟩, hle, hs⟩
end Go.Proofs.Ytnhnipdanpcbeaa
