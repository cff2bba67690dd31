import Derived.Test.YtnhnipdanpcbeaaV9
namespace Go.Proofs.Ytnhnipdanpcbeaa
open Go Eng
set_option linter.unusedVariables false
set_option linter.unusedSimpArgs false
/-! ### loop.example/g00146/impl.WidthOf: function 55 -/
def impl_WidthOf_l0 : Nat → Int → Int → Option Int
  | 0, _, _ => none
  | k + 1, x7254, p7230 => if x7254 < (([(⟨4352, 4447⟩ : T_anon96), (⟨11904, 42191⟩ : T_anon96), (⟨44032, 55203⟩ : T_anon96), (⟨63744, 64255⟩ : T_anon96), (⟨65281, 65376⟩ : T_anon96), (⟨127744, 129791⟩ : T_anon96)] : List T_anon96).length : Int) then (if 0 ≤ x7254 then ((impl_within p7230 ((rdA z_anon96 ([(⟨4352, 4447⟩ : T_anon96), (⟨11904, 42191⟩ : T_anon96), (⟨44032, 55203⟩ : T_anon96), (⟨63744, 64255⟩ : T_anon96), (⟨65281, 65376⟩ : T_anon96), (⟨127744, 129791⟩ : T_anon96)] : List T_anon96) x7254).e0) ((rdA z_anon96 ([(⟨4352, 4447⟩ : T_anon96), (⟨11904, 42191⟩ : T_anon96), (⟨44032, 55203⟩ : T_anon96), (⟨63744, 64255⟩ : T_anon96), (⟨65281, 65376⟩ : T_anon96), (⟨127744, 129791⟩ : T_anon96)] : List T_anon96) x7254).e1)).bind fun b12 => (if b12 = true then (some 2) else (impl_WidthOf_l0 k (IntKind.i64.wrap (x7254 + 1)) p7230))) else none) else (some 1)
def impl_WidthOf (k : Nat) (p7230 : Int) : Option Int := (impl_isPoint p7230).bind fun b9 => (if b9 = true then ((impl_within p7230 768 879).bind fun b10 => (if b10 = true then (some 0) else ((impl_isControl p7230).bind fun b11 => (if b11 = true then (some 2) else (impl_WidthOf_l0 k 0 p7230))))) else (some 0))
set_option maxHeartbeats 4000000 in
set_option maxRecDepth 100000 in
theorem impl_WidthOf.calls {k : Nat} {p7230 : Int} {r : Int} {I0 : Imm} (H : impl_WidthOf k p7230 = some r) :
    Meets Try.prog 55 ([.int .i64 p7230] : List Value).toArray I0 [] (fun v J M => v = .int .i64 r ∧ M = []) := by
 have hle := ImmLe.refl I0
 unfold impl_WidthOf at H
 refine fn_intro (fn := Try.f55) 33 Try.func55 rfl rfl rfl (fun E Fs => ?_)
 refine at_seq (at_reg0 [] [0] [(0, iV p7230)] ?_)
 refine at_thn (at_seq (at_seq (at_ops [0, 1, 2, 3, 4, 5, 6] rfl ?_)))
 refine at_seg0 [0] [1, 2, 3, 4, 5, 6] [] [0, 5] [(0, iV p7230), (5, iV p7230)] ?_
 refine at_eff rfl rfl ?_
 obtain ⟨b9, H7231, H⟩ := bind_some H
 have hm_ := impl_isPoint.calls (I0 := I0) H7231
 refine eff_call rfl rfl ok56 rfl rfl (show Meets Try.prog 56 ([iV p7230] : List Value).toArray _ [] _ from hm_) (Mr := (Fs)) (List.Perm.refl _) (fun v7232 J7233 M7234 hq7235 hJ7236 => ?_)
 replace hle := hle.trans hJ7236
 obtain ⟨rfl, rfl⟩ := hq7235
 by_cases h7237 : b9 = true
 ·
  rw [if_pos h7237] at H
  refine at_seg1 [2, 3, 4] [5, 6] [(3, .bool false)] [0, 8, 9] [(0, iV p7230), (8, .bool false), (9, iV p7230)] [fun _ => (.bool (!b9) : Value) = .bool false] (fun w hs => congrArg Value.bool (not_ff (h7237))) ?_
  refine at_eff rfl rfl ?_
  obtain ⟨b10, H7238, H⟩ := bind_some H
  have hm_ := impl_within.calls (I0 := J7233) H7238
  refine eff_call rfl rfl ok36 rfl rfl (show Meets Try.prog 36 ([iV p7230, iV 768, iV 879] : List Value).toArray _ [] _ from hm_) (Mr := (Fs)) (List.Perm.refl _) (fun v7239 J7240 M7241 hq7242 hJ7243 => ?_)
  replace hle := hle.trans hJ7243
  obtain ⟨rfl, rfl⟩ := hq7242
  refine at_seg0 [6] [] [] [0, 11] [(0, iV p7230), (11, .bool b10)] ?_
  refine at_end (at_thn ?_)
  by_cases h7244 : b10 = true
  ·
   rw [if_pos h7244] at H
   refine at_cond_t rfl (h7244) ?_
   refine at_seq (at_reg0 [] [2] [(2, iV 0)] ?_)
   refine at_thn (at_ret (at_then_ret ?_))
   obtain rfl := Option.some.inj H
   exact at_done0 [iV 0] (.inl rfl) [.tmp 2] fun w hs => ⟨_, _, [], rfl, ⟨rfl, rfl⟩, hle, hs⟩
  ·
   rw [if_neg h7244] at H
   refine at_cond_f rfl (ff_of h7244) ?_
   refine at_skip (at_thn (at_seq (at_seq (at_ops [0, 1] rfl ?_))))
   refine at_seg0 [0] [1] [] [0, 12] [(0, iV p7230), (12, iV p7230)] ?_
   refine at_eff rfl rfl ?_
   obtain ⟨b11, H7245, H⟩ := bind_some H
   have hm_ := impl_isControl.calls (I0 := J7240) H7245
   refine eff_call rfl rfl ok57 rfl rfl (show Meets Try.prog 57 ([iV p7230] : List Value).toArray _ [] _ from hm_) (Mr := (Fs)) (List.Perm.refl _) (fun v7246 J7247 M7248 hq7249 hJ7250 => ?_)
   replace hle := hle.trans hJ7250
   obtain ⟨rfl, rfl⟩ := hq7249
   refine at_end (at_thn ?_)
   by_cases h7251 : b11 = true
   ·
    rw [if_pos h7251] at H
    refine at_cond_t rfl (h7251) ?_
    refine at_seq (at_reg0 [] [2] [(2, iV 2)] ?_)
    refine at_thn (at_ret (at_then_ret ?_))
    obtain rfl := Option.some.inj H
    exact at_done0 [iV 2] (.inl rfl) [.tmp 2] fun w hs => ⟨_, _, [], rfl, ⟨rfl, rfl⟩, hle, hs⟩
   ·
    rw [if_neg h7251] at H
    refine at_cond_f rfl (ff_of h7251) ?_
    refine at_skip (at_thn (at_seq (at_seq (at_ops [0, 1, 2, 3, 4, 5, 6, 7, 8] rfl ?_))))
    refine at_seg0 [0, 1, 2, 3, 4, 5] [6, 7, 8] [] [0, 14, 15, 16, 17, 18, 19] [(0, iV p7230), (14, .agg #[iV 4352, iV 4447]), (15, .agg #[iV 11904, iV 42191]), (16, .agg #[iV 44032, iV 55203]), (17, .agg #[iV 63744, iV 64255]), (18, .agg #[iV 65281, iV 65376]), (19, .agg #[iV 127744, iV 129791])] ?_
    refine at_eff rfl rfl ?_
    refine eff_buildSlice (e := 96) (cells := #[iV 4352, iV 4447, iV 11904, iV 42191, iV 44032, iV 55203, iV 63744, iV 64255, iV 65281, iV 65376, iV 127744, iV 129791]) ([(⟨4352, 4447⟩ : T_anon96), (⟨11904, 42191⟩ : T_anon96), (⟨44032, 55203⟩ : T_anon96), (⟨63744, 64255⟩ : T_anon96), (⟨65281, 65376⟩ : T_anon96), (⟨127744, 129791⟩ : T_anon96)] : List T_anon96).length rfl rfl rfl (by kernel_rfl) (fun g7252 => ?_)
    have ho7253 := own_lit (K := k_anon96) (e := 96) (I := J7247) (xs := ([(⟨4352, 4447⟩ : T_anon96), (⟨11904, 42191⟩ : T_anon96), (⟨44032, 55203⟩ : T_anon96), (⟨63744, 64255⟩ : T_anon96), (⟨65281, 65376⟩ : T_anon96), (⟨127744, 129791⟩ : T_anon96)] : List T_anon96)) (css := [[iV 4352, iV 4447], [iV 11904, iV 42191], [iV 44032, iV 55203], [iV 63744, iV 64255], [iV 65281, iV 65376], [iV 127744, iV 129791]]) (cells := #[iV 4352, iV 4447, iV 11904, iV 42191, iV 44032, iV 55203, iV 63744, iV 64255, iV 65281, iV 65376, iV 127744, iV 129791]) (b := g7252) ⟨rfl, ⟨rfl, ⟨rfl, ⟨rfl, ⟨rfl, ⟨rfl, trivial⟩⟩⟩⟩⟩⟩ rfl
    refine at_seg0 [7, 8] [] [] [0, 20, 21, 22] [(0, iV p7230), (20, .slice (some ⟨g7252, 0, none⟩ : Option Addr) ([(⟨4352, 4447⟩ : T_anon96), (⟨11904, 42191⟩ : T_anon96), (⟨44032, 55203⟩ : T_anon96), (⟨63744, 64255⟩ : T_anon96), (⟨65281, 65376⟩ : T_anon96), (⟨127744, 129791⟩ : T_anon96)] : List T_anon96).length (([(⟨4352, 4447⟩ : T_anon96), (⟨11904, 42191⟩ : T_anon96), (⟨44032, 55203⟩ : T_anon96), (⟨63744, 64255⟩ : T_anon96), (⟨65281, 65376⟩ : T_anon96), (⟨127744, 129791⟩ : T_anon96)] : List T_anon96).length)), (21, iV (([(⟨4352, 4447⟩ : T_anon96), (⟨11904, 42191⟩ : T_anon96), (⟨44032, 55203⟩ : T_anon96), (⟨63744, 64255⟩ : T_anon96), (⟨65281, 65376⟩ : T_anon96), (⟨127744, 129791⟩ : T_anon96)] : List T_anon96).length : Int)), (22, iV 0)] ?_
    refine at_end (at_thn (at_block (at_keep [0, 20, 21, 22] (L2 := [(0, iV p7230), (20, .slice (some ⟨g7252, 0, none⟩ : Option Addr) ([(⟨4352, 4447⟩ : T_anon96), (⟨11904, 42191⟩ : T_anon96), (⟨44032, 55203⟩ : T_anon96), (⟨63744, 64255⟩ : T_anon96), (⟨65281, 65376⟩ : T_anon96), (⟨127744, 129791⟩ : T_anon96)] : List T_anon96).length (([(⟨4352, 4447⟩ : T_anon96), (⟨11904, 42191⟩ : T_anon96), (⟨44032, 55203⟩ : T_anon96), (⟨63744, 64255⟩ : T_anon96), (⟨65281, 65376⟩ : T_anon96), (⟨127744, 129791⟩ : T_anon96)] : List T_anon96).length)), (21, iV (([(⟨4352, 4447⟩ : T_anon96), (⟨11904, 42191⟩ : T_anon96), (⟨44032, 55203⟩ : T_anon96), (⟨63744, 64255⟩ : T_anon96), (⟨65281, 65376⟩ : T_anon96), (⟨127744, 129791⟩ : T_anon96)] : List T_anon96).length : Int)), (22, iV 0)]) rfl ?_)))
    refine at_loop (fun k7255 L I Ms => ∃ (x7254 : Int), L = [(0, iV p7230), (20, .slice (some ⟨g7252, 0, none⟩ : Option Addr) ([(⟨4352, 4447⟩ : T_anon96), (⟨11904, 42191⟩ : T_anon96), (⟨44032, 55203⟩ : T_anon96), (⟨63744, 64255⟩ : T_anon96), (⟨65281, 65376⟩ : T_anon96), (⟨127744, 129791⟩ : T_anon96)] : List T_anon96).length (([(⟨4352, 4447⟩ : T_anon96), (⟨11904, 42191⟩ : T_anon96), (⟨44032, 55203⟩ : T_anon96), (⟨63744, 64255⟩ : T_anon96), (⟨65281, 65376⟩ : T_anon96), (⟨127744, 129791⟩ : T_anon96)] : List T_anon96).length)), (21, iV (([(⟨4352, 4447⟩ : T_anon96), (⟨11904, 42191⟩ : T_anon96), (⟨44032, 55203⟩ : T_anon96), (⟨63744, 64255⟩ : T_anon96), (⟨65281, 65376⟩ : T_anon96), (⟨127744, 129791⟩ : T_anon96)] : List T_anon96).length : Int)), (22, iV x7254)] ∧ Ms = ([(g7252, .cells #[iV 4352, iV 4447, iV 11904, iV 42191, iV 44032, iV 55203, iV 63744, iV 64255, iV 65281, iV 65376, iV 127744, iV 129791] 96 (0, 0))] :: Fs) ∧ impl_WidthOf_l0 k7255 x7254 p7230 = some r ∧ ImmLe I0 I ∧ k7255 ≤ k ∧ Own k_anon96 96 I (some ⟨g7252, 0, none⟩ : Option Addr) (([(⟨4352, 4447⟩ : T_anon96), (⟨11904, 42191⟩ : T_anon96), (⟨44032, 55203⟩ : T_anon96), (⟨63744, 64255⟩ : T_anon96), (⟨65281, 65376⟩ : T_anon96), (⟨127744, 129791⟩ : T_anon96)] : List T_anon96).length) ([(⟨4352, 4447⟩ : T_anon96), (⟨11904, 42191⟩ : T_anon96), (⟨44032, 55203⟩ : T_anon96), (⟨63744, 64255⟩ : T_anon96), (⟨65281, 65376⟩ : T_anon96), (⟨127744, 129791⟩ : T_anon96)] : List T_anon96) [(g7252, .cells #[iV 4352, iV 4447, iV 11904, iV 42191, iV 44032, iV 55203, iV 63744, iV 64255, iV 65281, iV 65376, iV 127744, iV 129791] 96 (0, 0))]) ?_ ?_ k ⟨0, rfl, rfl, H, hle, Nat.le_refl _, ho7253⟩
    · rintro L I Ms ⟨_, rfl, rfl, H, _⟩; exact no_none H
    ·
     clear H hle ho7253
     intro k7255 ih7256 L I Ms h_; obtain ⟨x7254, hL_, hM_, H, hle, hk7257, ho7253⟩ := h_; rw [hL_, hM_]; clear hL_ hM_ L Ms
     rw [impl_WidthOf_l0] at H
     refine at_seq (at_reg0 [] [0, 20, 21, 22, 23] [(0, iV p7230), (20, .slice (some ⟨g7252, 0, none⟩ : Option Addr) ([(⟨4352, 4447⟩ : T_anon96), (⟨11904, 42191⟩ : T_anon96), (⟨44032, 55203⟩ : T_anon96), (⟨63744, 64255⟩ : T_anon96), (⟨65281, 65376⟩ : T_anon96), (⟨127744, 129791⟩ : T_anon96)] : List T_anon96).length (([(⟨4352, 4447⟩ : T_anon96), (⟨11904, 42191⟩ : T_anon96), (⟨44032, 55203⟩ : T_anon96), (⟨63744, 64255⟩ : T_anon96), (⟨65281, 65376⟩ : T_anon96), (⟨127744, 129791⟩ : T_anon96)] : List T_anon96).length)), (21, iV (([(⟨4352, 4447⟩ : T_anon96), (⟨11904, 42191⟩ : T_anon96), (⟨44032, 55203⟩ : T_anon96), (⟨63744, 64255⟩ : T_anon96), (⟨65281, 65376⟩ : T_anon96), (⟨127744, 129791⟩ : T_anon96)] : List T_anon96).length : Int)), (22, iV x7254), (23, .bool (decide (x7254 < (([(⟨4352, 4447⟩ : T_anon96), (⟨11904, 42191⟩ : T_anon96), (⟨44032, 55203⟩ : T_anon96), (⟨63744, 64255⟩ : T_anon96), (⟨65281, 65376⟩ : T_anon96), (⟨127744, 129791⟩ : T_anon96)] : List T_anon96).length : Int))))] ?_)
     refine at_thn (at_seq ?_)
     by_cases h7258 : x7254 < (([(⟨4352, 4447⟩ : T_anon96), (⟨11904, 42191⟩ : T_anon96), (⟨44032, 55203⟩ : T_anon96), (⟨63744, 64255⟩ : T_anon96), (⟨65281, 65376⟩ : T_anon96), (⟨127744, 129791⟩ : T_anon96)] : List T_anon96).length : Int)
     ·
      rw [if_pos h7258] at H
      refine at_cond_t rfl (decide_eq_true h7258) ?_
      refine at_skip (at_thn (at_seq (at_block (at_seq (at_ops [0, 1, 2, 3] rfl ?_)))))
      obtain ⟨h7259, H⟩ := ite_some H
      obtain ⟨cs7261, hz7262, hc7260⟩ := ho7253.elem z_anon96 x7254 h7259 h7258
      obtain rfl := hz7262
      refine at_seg1 [0, 1] [2, 3] [(1, .agg #[iV ((rdA z_anon96 ([(⟨4352, 4447⟩ : T_anon96), (⟨11904, 42191⟩ : T_anon96), (⟨44032, 55203⟩ : T_anon96), (⟨63744, 64255⟩ : T_anon96), (⟨65281, 65376⟩ : T_anon96), (⟨127744, 129791⟩ : T_anon96)] : List T_anon96) x7254).e0), iV ((rdA z_anon96 ([(⟨4352, 4447⟩ : T_anon96), (⟨11904, 42191⟩ : T_anon96), (⟨44032, 55203⟩ : T_anon96), (⟨63744, 64255⟩ : T_anon96), (⟨65281, 65376⟩ : T_anon96), (⟨127744, 129791⟩ : T_anon96)] : List T_anon96) x7254).e1)])] [0, 20, 21, 22, 25] [(0, iV p7230), (20, .slice (some ⟨g7252, 0, none⟩ : Option Addr) ([(⟨4352, 4447⟩ : T_anon96), (⟨11904, 42191⟩ : T_anon96), (⟨44032, 55203⟩ : T_anon96), (⟨63744, 64255⟩ : T_anon96), (⟨65281, 65376⟩ : T_anon96), (⟨127744, 129791⟩ : T_anon96)] : List T_anon96).length (([(⟨4352, 4447⟩ : T_anon96), (⟨11904, 42191⟩ : T_anon96), (⟨44032, 55203⟩ : T_anon96), (⟨63744, 64255⟩ : T_anon96), (⟨65281, 65376⟩ : T_anon96), (⟨127744, 129791⟩ : T_anon96)] : List T_anon96).length)), (21, iV (([(⟨4352, 4447⟩ : T_anon96), (⟨11904, 42191⟩ : T_anon96), (⟨44032, 55203⟩ : T_anon96), (⟨63744, 64255⟩ : T_anon96), (⟨65281, 65376⟩ : T_anon96), (⟨127744, 129791⟩ : T_anon96)] : List T_anon96).length : Int)), (22, iV x7254), (25, .agg #[iV ((rdA z_anon96 ([(⟨4352, 4447⟩ : T_anon96), (⟨11904, 42191⟩ : T_anon96), (⟨44032, 55203⟩ : T_anon96), (⟨63744, 64255⟩ : T_anon96), (⟨65281, 65376⟩ : T_anon96), (⟨127744, 129791⟩ : T_anon96)] : List T_anon96) x7254).e0), iV ((rdA z_anon96 ([(⟨4352, 4447⟩ : T_anon96), (⟨11904, 42191⟩ : T_anon96), (⟨44032, 55203⟩ : T_anon96), (⟨63744, 64255⟩ : T_anon96), (⟨65281, 65376⟩ : T_anon96), (⟨127744, 129791⟩ : T_anon96)] : List T_anon96) x7254).e1)])] [fun _ => (some ⟨g7252, 0, none⟩ : Option Addr).isSome = true ∧ 0 ≤ x7254 ∧ x7254 < ((([(⟨4352, 4447⟩ : T_anon96), (⟨11904, 42191⟩ : T_anon96), (⟨44032, 55203⟩ : T_anon96), (⟨63744, 64255⟩ : T_anon96), (⟨65281, 65376⟩ : T_anon96), (⟨127744, 129791⟩ : T_anon96)] : List T_anon96).length : Nat) : Int), fun w => CellsAt w (((some ⟨g7252, 0, none⟩ : Option Addr).getD ad0).add (x7254.toNat * 2)) [iV ((rdA z_anon96 ([(⟨4352, 4447⟩ : T_anon96), (⟨11904, 42191⟩ : T_anon96), (⟨44032, 55203⟩ : T_anon96), (⟨63744, 64255⟩ : T_anon96), (⟨65281, 65376⟩ : T_anon96), (⟨127744, 129791⟩ : T_anon96)] : List T_anon96) x7254).e0), iV ((rdA z_anon96 ([(⟨4352, 4447⟩ : T_anon96), (⟨11904, 42191⟩ : T_anon96), (⟨44032, 55203⟩ : T_anon96), (⟨63744, 64255⟩ : T_anon96), (⟨65281, 65376⟩ : T_anon96), (⟨127744, 129791⟩ : T_anon96)] : List T_anon96) x7254).e1)] 0] (fun w hs => ⟨⟨ho7253.ne x7254 h7259 h7258, h7259, h7258⟩, ⟨hc7260 0 _ rfl hs (k := 0) rfl, hc7260 1 _ rfl hs (k := 0) rfl, trivial⟩⟩) ?_
      refine at_eff rfl rfl ?_
      obtain ⟨i_, hi_, hz_, _, _⟩ := info96
      refine eff_alloc rfl rfl hi_ hz_ #[iV 0, iV 0] rfl (fun g7263 => ?_)
      refine at_eff rfl rfl ?_
      refine eff_store 0 rfl rfl rfl rfl rfl rfl (.inl (Nat.le_refl _)) rfl (Nat.le_of_ble_eq_true (by kernel_rfl)) rfl ?_
      refine at_sg ([(g7263, .cells #[iV ((rdA z_anon96 ([(⟨4352, 4447⟩ : T_anon96), (⟨11904, 42191⟩ : T_anon96), (⟨44032, 55203⟩ : T_anon96), (⟨63744, 64255⟩ : T_anon96), (⟨65281, 65376⟩ : T_anon96), (⟨127744, 129791⟩ : T_anon96)] : List T_anon96) x7254).e0), iV ((rdA z_anon96 ([(⟨4352, 4447⟩ : T_anon96), (⟨11904, 42191⟩ : T_anon96), (⟨44032, 55203⟩ : T_anon96), (⟨63744, 64255⟩ : T_anon96), (⟨65281, 65376⟩ : T_anon96), (⟨127744, 129791⟩ : T_anon96)] : List T_anon96) x7254).e1)] 96 (0, 0))] :: [(g7252, .cells #[iV 4352, iV 4447, iV 11904, iV 42191, iV 44032, iV 55203, iV 63744, iV 64255, iV 65281, iV 65376, iV 127744, iV 129791] 96 (0, 0))] :: Fs) ?_
      refine at_end (at_thn (at_seq (at_ops [0, 1, 2, 3, 4, 5] rfl ?_)))
      refine at_seg1 [0, 1, 2, 3, 4] [5] [(2, iV ((rdA z_anon96 ([(⟨4352, 4447⟩ : T_anon96), (⟨11904, 42191⟩ : T_anon96), (⟨44032, 55203⟩ : T_anon96), (⟨63744, 64255⟩ : T_anon96), (⟨65281, 65376⟩ : T_anon96), (⟨127744, 129791⟩ : T_anon96)] : List T_anon96) x7254).e0)), (4, iV ((rdA z_anon96 ([(⟨4352, 4447⟩ : T_anon96), (⟨11904, 42191⟩ : T_anon96), (⟨44032, 55203⟩ : T_anon96), (⟨63744, 64255⟩ : T_anon96), (⟨65281, 65376⟩ : T_anon96), (⟨127744, 129791⟩ : T_anon96)] : List T_anon96) x7254).e1))] [0, 20, 21, 22, 26, 28, 30] [(0, iV p7230), (20, .slice (some ⟨g7252, 0, none⟩ : Option Addr) ([(⟨4352, 4447⟩ : T_anon96), (⟨11904, 42191⟩ : T_anon96), (⟨44032, 55203⟩ : T_anon96), (⟨63744, 64255⟩ : T_anon96), (⟨65281, 65376⟩ : T_anon96), (⟨127744, 129791⟩ : T_anon96)] : List T_anon96).length (([(⟨4352, 4447⟩ : T_anon96), (⟨11904, 42191⟩ : T_anon96), (⟨44032, 55203⟩ : T_anon96), (⟨63744, 64255⟩ : T_anon96), (⟨65281, 65376⟩ : T_anon96), (⟨127744, 129791⟩ : T_anon96)] : List T_anon96).length)), (21, iV (([(⟨4352, 4447⟩ : T_anon96), (⟨11904, 42191⟩ : T_anon96), (⟨44032, 55203⟩ : T_anon96), (⟨63744, 64255⟩ : T_anon96), (⟨65281, 65376⟩ : T_anon96), (⟨127744, 129791⟩ : T_anon96)] : List T_anon96).length : Int)), (22, iV x7254), (26, iV p7230), (28, iV ((rdA z_anon96 ([(⟨4352, 4447⟩ : T_anon96), (⟨11904, 42191⟩ : T_anon96), (⟨44032, 55203⟩ : T_anon96), (⟨63744, 64255⟩ : T_anon96), (⟨65281, 65376⟩ : T_anon96), (⟨127744, 129791⟩ : T_anon96)] : List T_anon96) x7254).e0)), (30, iV ((rdA z_anon96 ([(⟨4352, 4447⟩ : T_anon96), (⟨11904, 42191⟩ : T_anon96), (⟨44032, 55203⟩ : T_anon96), (⟨63744, 64255⟩ : T_anon96), (⟨65281, 65376⟩ : T_anon96), (⟨127744, 129791⟩ : T_anon96)] : List T_anon96) x7254).e1))] [fun _ => 0 ≤ (0 : Int) ∧ (0 : Int) < ((2 : Nat) : Int), fun w => w.cell? ⟨g7263, 0, none⟩ = some (iV ((rdA z_anon96 ([(⟨4352, 4447⟩ : T_anon96), (⟨11904, 42191⟩ : T_anon96), (⟨44032, 55203⟩ : T_anon96), (⟨63744, 64255⟩ : T_anon96), (⟨65281, 65376⟩ : T_anon96), (⟨127744, 129791⟩ : T_anon96)] : List T_anon96) x7254).e0)), fun _ => 0 ≤ (1 : Int) ∧ (1 : Int) < ((2 : Nat) : Int), fun w => w.cell? ⟨g7263, 1, none⟩ = some (iV ((rdA z_anon96 ([(⟨4352, 4447⟩ : T_anon96), (⟨11904, 42191⟩ : T_anon96), (⟨44032, 55203⟩ : T_anon96), (⟨63744, 64255⟩ : T_anon96), (⟨65281, 65376⟩ : T_anon96), (⟨127744, 129791⟩ : T_anon96)] : List T_anon96) x7254).e1))] (fun w hs => ⟨(by decide : 0 ≤ (0 : Int) ∧ (0 : Int) < ((2 : Nat) : Int)), hs.var (k := 0) rfl 0 rfl, (by decide : 0 ≤ (1 : Int) ∧ (1 : Int) < ((2 : Nat) : Int)), hs.var (k := 0) rfl 1 rfl⟩) ?_
      refine at_eff rfl rfl ?_
      obtain ⟨b12, H7264, H⟩ := bind_some H
      have hm_ := impl_within.calls (I0 := I) H7264
      refine eff_call rfl rfl ok36 rfl rfl (show Meets Try.prog 36 ([iV p7230, iV ((rdA z_anon96 ([(⟨4352, 4447⟩ : T_anon96), (⟨11904, 42191⟩ : T_anon96), (⟨44032, 55203⟩ : T_anon96), (⟨63744, 64255⟩ : T_anon96), (⟨65281, 65376⟩ : T_anon96), (⟨127744, 129791⟩ : T_anon96)] : List T_anon96) x7254).e0), iV ((rdA z_anon96 ([(⟨4352, 4447⟩ : T_anon96), (⟨11904, 42191⟩ : T_anon96), (⟨44032, 55203⟩ : T_anon96), (⟨63744, 64255⟩ : T_anon96), (⟨65281, 65376⟩ : T_anon96), (⟨127744, 129791⟩ : T_anon96)] : List T_anon96) x7254).e1)] : List Value).toArray _ [] _ from hm_) (Mr := ([(g7263, .cells #[iV ((rdA z_anon96 ([(⟨4352, 4447⟩ : T_anon96), (⟨11904, 42191⟩ : T_anon96), (⟨44032, 55203⟩ : T_anon96), (⟨63744, 64255⟩ : T_anon96), (⟨65281, 65376⟩ : T_anon96), (⟨127744, 129791⟩ : T_anon96)] : List T_anon96) x7254).e0), iV ((rdA z_anon96 ([(⟨4352, 4447⟩ : T_anon96), (⟨11904, 42191⟩ : T_anon96), (⟨44032, 55203⟩ : T_anon96), (⟨63744, 64255⟩ : T_anon96), (⟨65281, 65376⟩ : T_anon96), (⟨127744, 129791⟩ : T_anon96)] : List T_anon96) x7254).e1)] 96 (0, 0))] :: [(g7252, .cells #[iV 4352, iV 4447, iV 11904, iV 42191, iV 44032, iV 55203, iV 63744, iV 64255, iV 65281, iV 65376, iV 127744, iV 129791] 96 (0, 0))] :: Fs)) (List.Perm.refl _) (fun v7265 J7266 M7267 hq7268 hJ7269 => ?_)
      replace hle := hle.trans hJ7269
      replace ho7253 := ho7253.mono hJ7269
      obtain ⟨rfl, rfl⟩ := hq7268
      refine at_end (at_thn ?_)
      by_cases h7270 : b12 = true
      ·
       rw [if_pos h7270] at H
       refine at_cond_t rfl (h7270) ?_
       refine at_seq (at_reg0 [] [2] [(2, iV 2)] ?_)
       refine at_thn (at_ret (at_in_ret (at_then_ret (at_then_ret (at_in_ret (at_then_ret ?_))))))
       obtain rfl := Option.some.inj H
       refine at_drop (k := 0) rfl rfl ?_
       refine at_drop (k := 0) rfl rfl ?_
       exact at_done0 [iV 2] (.inl rfl) [.tmp 2] fun w hs => ⟨_, _, [], rfl, ⟨rfl, rfl⟩, hle, hs⟩
      ·
       rw [if_neg h7270] at H
       refine at_cond_f rfl (ff_of h7270) ?_
       refine at_skip (at_in_norm (at_thn (at_reg0 [] [0, 20, 21, 22] [(0, iV p7230), (20, .slice (some ⟨g7252, 0, none⟩ : Option Addr) ([(⟨4352, 4447⟩ : T_anon96), (⟨11904, 42191⟩ : T_anon96), (⟨44032, 55203⟩ : T_anon96), (⟨63744, 64255⟩ : T_anon96), (⟨65281, 65376⟩ : T_anon96), (⟨127744, 129791⟩ : T_anon96)] : List T_anon96).length (([(⟨4352, 4447⟩ : T_anon96), (⟨11904, 42191⟩ : T_anon96), (⟨44032, 55203⟩ : T_anon96), (⟨63744, 64255⟩ : T_anon96), (⟨65281, 65376⟩ : T_anon96), (⟨127744, 129791⟩ : T_anon96)] : List T_anon96).length)), (21, iV (([(⟨4352, 4447⟩ : T_anon96), (⟨11904, 42191⟩ : T_anon96), (⟨44032, 55203⟩ : T_anon96), (⟨63744, 64255⟩ : T_anon96), (⟨65281, 65376⟩ : T_anon96), (⟨127744, 129791⟩ : T_anon96)] : List T_anon96).length : Int)), (22, iV (IntKind.i64.wrap (x7254 + 1)))] ?_)))
       refine at_thn (at_drop (k := 0) rfl rfl ?_)
       refine at_sg ([(g7252, .cells #[iV 4352, iV 4447, iV 11904, iV 42191, iV 44032, iV 55203, iV 63744, iV 64255, iV 65281, iV 65376, iV 127744, iV 129791] 96 (0, 0))] :: Fs) ?_
       refine at_keep [0, 20, 21, 22] (L2 := [(0, iV p7230), (20, .slice (some ⟨g7252, 0, none⟩ : Option Addr) ([(⟨4352, 4447⟩ : T_anon96), (⟨11904, 42191⟩ : T_anon96), (⟨44032, 55203⟩ : T_anon96), (⟨63744, 64255⟩ : T_anon96), (⟨65281, 65376⟩ : T_anon96), (⟨127744, 129791⟩ : T_anon96)] : List T_anon96).length (([(⟨4352, 4447⟩ : T_anon96), (⟨11904, 42191⟩ : T_anon96), (⟨44032, 55203⟩ : T_anon96), (⟨63744, 64255⟩ : T_anon96), (⟨65281, 65376⟩ : T_anon96), (⟨127744, 129791⟩ : T_anon96)] : List T_anon96).length)), (21, iV (([(⟨4352, 4447⟩ : T_anon96), (⟨11904, 42191⟩ : T_anon96), (⟨44032, 55203⟩ : T_anon96), (⟨63744, 64255⟩ : T_anon96), (⟨65281, 65376⟩ : T_anon96), (⟨127744, 129791⟩ : T_anon96)] : List T_anon96).length : Int)), (22, iV (IntKind.i64.wrap (x7254 + 1)))]) rfl ?_
       exact ih7256 _ (by omega) _ _ _ ⟨IntKind.i64.wrap (x7254 + 1), rfl, rfl, H, hle, by omega, ho7253⟩
     ·
      rw [if_neg h7258] at H
      refine at_cond_f rfl (decide_eq_false h7258) ?_
      refine at_exit (at_then_exit (at_then_exit (at_in_hit (at_thn (at_seq (at_reg0 [] [2] [(2, iV 1)] ?_))))))
      refine at_thn (at_ret ?_)
      obtain rfl := Option.some.inj H
      refine at_drop (k := 0) rfl rfl ?_
      exact at_done0 [iV 1] (.inl rfl) [.tmp 2] fun w hs => ⟨_, _, [], rfl, ⟨rfl, rfl⟩, hle, hs⟩
 ·
  rw [if_neg h7237] at H
  refine at_seg1 [2, 3, 4] [5, 6] [(3, .bool true)] [0, 8, 9] [(0, iV p7230), (8, .bool true), (9, undef)] [fun _ => (.bool (!b9) : Value) = .bool true] (fun w hs => congrArg Value.bool (not_tt (ff_of h7237))) ?_
  refine at_seg0 [5, 6] [] [] [0, 11] [(0, iV p7230), (11, .bool true)] ?_
  refine at_end (at_thn (at_cond_t rfl (rfl) ?_))
  refine at_seq (at_reg0 [] [2] [(2, iV 0)] ?_)
  refine at_thn (at_ret (at_then_ret ?_))
  obtain rfl := Option.some.inj H
  exact at_done0 [iV 0] (.inl rfl) [.tmp 2] fun w hs => ⟨_, _, [], rfl, ⟨rfl, rfl⟩, hle, hs⟩
end Go.Proofs.Ytnhnipdanpcbeaa
