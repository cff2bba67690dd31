import Derived.Test.YtocfakbgefdgkaaG11
namespace Go.Proofs.Ytocfakbgefdgkaa
open Go Eng
set_option linter.unusedVariables false
set_option linter.unusedSimpArgs false
/-! ### loop.example/g00146/impl.RingTurn: function 29 -/
def impl_RingTurn_j0 : Nat → Bool → T_impl_Ring → T_impl_Ring → Option T_impl_Ring
  | 0, _, _, _ => none
  | k + 1, x219, b9, p101 => if x219 = true then ((impl_size_int64_60 p101.Items).bind fun b10 => (if ¬ b10 = 0 then (some (⟨b9.Items, (IntKind.i64.wrap (p101.At + 1)).tmod b10⟩ : T_impl_Ring)) else none)) else (some b9)
def impl_RingTurn (k : Nat) (p101 : T_impl_Ring) : Option T_impl_Ring := (impl_ownRing k p101).bind fun b9 => ((impl_RingRight k p101).bind fun b11 => (if b11 = true then (impl_RingTurn_j0 k (decide ((p101.Items.length : Int) > 0)) b9 p101) else (impl_RingTurn_j0 k false b9 p101)))
set_option maxHeartbeats 4000000 in
set_option maxRecDepth 100000 in
theorem impl_RingTurn.calls {k : Nat} {p101 : T_impl_Ring} {r : T_impl_Ring} {I0 : Imm} {A102 : Option Addr} {c103 : Nat} (H : impl_RingTurn k p101 = some r) (hr104 : Rd (Kd.slice (Kd.int .i64)) I0 A102 c103 p101.Items) :
    Meets Try.prog 29 ([.agg #[.slice A102 p101.Items.length c103, .int .i64 p101.At]] : List Value).toArray I0 [] (fun v J M => ∃ (A_1 : Option Addr) (c_2 : Nat) (s_3 : Seg), v = .agg #[.slice A_1 r.Items.length c_2, .int .i64 r.At] ∧ M = [s_3] ∧ Own (Kd.slice (Kd.int .i64)) 23 J A_1 c_2 r.Items s_3) := by
  have hle := ImmLe.refl I0
  unfold impl_RingTurn at H
  refine fn_intro (fn := Try.f29) 23 Try.func29 rfl rfl rfl (fun E Fs => ?_)
  refine at_seq ?_
  refine at_ops [0, 1] rfl ?_
  refine at_eff rfl rfl ?_
  refine eff_box rfl rfl rfl #[.slice A102 p101.Items.length c103, .int .i64 p101.At] rfl (fun g105 => ?_)
  refine at_eff rfl rfl ?_
  obtain ⟨i_, hi_, hz_, _, _⟩ := info38
  refine eff_alloc rfl rfl hi_ hz_ #[.slice none ([] : List (List Int)).length 0, .int .i64 0] rfl (fun g106 => ?_)
  refine at_end ?_
  refine at_thn ?_
  refine at_seq ?_
  refine at_ops [0, 1, 2, 3] rfl ?_
  refine at_seg [0] [1, 2, 3] rfl [(0, .agg #[.slice A102 p101.Items.length c103, .int .i64 p101.At])] [1, 2, 4] (L2 := [(1, .pointer (some ⟨g105, 0, none⟩)), (2, .pointer (some ⟨g106, 0, none⟩)), (4, .agg #[.slice A102 p101.Items.length c103, .int .i64 p101.At])]) (obs := [fun w => CellsAt w ⟨g105, 0, none⟩ [.slice A102 p101.Items.length c103, .int .i64 p101.At] 0]) (by kernel_rfl) ?_ ?_
  · intro w hs; exact cellsV (k := 1) hs rfl _ 0 (Nat.le_of_ble_eq_true (by kernel_rfl)) rfl
  refine at_eff rfl rfl ?_
  obtain ⟨b9, H107, H⟩ := bind_some H
  have hm_ := impl_ownRing.calls (I0 := I0) H107 hr104
  refine eff_call rfl rfl ok48 rfl rfl (show Meets Try.prog 48 ([.agg #[.slice A102 p101.Items.length c103, .int .i64 p101.At]] : List Value).toArray _ [] _ from hm_) (Mr := ([(g106, .cells #[.slice none ([] : List (List Int)).length 0, .int .i64 0] 38 (0, 0))] :: [(g105, .cells #[.slice A102 p101.Items.length c103, .int .i64 p101.At] 38 (0, 0))] :: Fs)) (List.Perm.refl _) (fun v108 J109 M110 hq111 hJ112 => ?_)
  replace hle := hle.trans hJ112
  replace hr104 := hr104.mono hJ112
  obtain ⟨A113, c114, s115, rfl, rfl, ho116⟩ := hq111
  refine at_eff rfl rfl ?_
  obtain ⟨i_, hi_, hz_, _, _⟩ := info38
  refine eff_alloc rfl rfl hi_ hz_ #[.slice none ([] : List (List Int)).length 0, .int .i64 0] rfl (fun g117 => ?_)
  refine at_eff rfl rfl ?_
  refine eff_store 0 rfl rfl rfl rfl rfl rfl (.inl (Nat.le_refl _)) rfl (Nat.le_of_ble_eq_true (by kernel_rfl)) rfl ?_
  refine at_end ?_
  refine at_thn ?_
  refine at_seq ?_
  refine at_join (fun L I Ms => ∃ (k220 : Nat), ∃ (x219 : Bool), L = [(1, .pointer (some ⟨g105, 0, none⟩)), (2, .pointer (some ⟨g106, 0, none⟩)), (3, .pointer (some ⟨g117, 0, none⟩)), (13, .bool x219)] ∧ Ms = ([(g105, .cells #[.slice A102 p101.Items.length c103, .int .i64 p101.At] 38 (0, 0))] :: [(g106, .cells #[.slice none ([] : List (List Int)).length 0, .int .i64 0] 38 (0, 0))] :: [(g117, .cells #[.slice A113 b9.Items.length c114, .int .i64 b9.At] 38 (0, 0))] :: s115 :: Fs) ∧ impl_RingTurn_j0 k220 x219 b9 p101 = some r ∧ ImmLe I0 I ∧ k220 ≤ k ∧ Own (Kd.slice (Kd.int .i64)) 23 I A113 c114 b9.Items s115 ∧ Rd (Kd.slice (Kd.int .i64)) I A102 c103 p101.Items) ?_ ?_
  · clear H hle ho116 hr104
    intro L I Ms h_; obtain ⟨k220, x219, hL_, hM_, H, hle, hk221, ho116, hr104⟩ := h_; rw [hL_, hM_]; clear hL_ hM_ L Ms
    rcases k220 with _ | k220
    · exact (no_none H).elim
    rw [impl_RingTurn_j0] at H
    by_cases h222 : x219 = true
    · rw [if_pos h222] at H
      refine at_cond_t rfl (h222) ?_
      refine at_x hmo (fun w => w.cell? ⟨g105, 1, none⟩ = some (.int .i64 p101.At) ∧ w.cell? ⟨g105, 0, none⟩ = some (.slice A102 p101.Items.length c103)) [8] ?_
      refine at_xseg [0, 1, 2, 3, 4] 4 (#[true, true, true, true, true, false, false, false, false]) rfl (by kernel_rfl) [(1, .int .i64 p101.At), (4, .slice A102 p101.Items.length c103)] [2, 3, 16, 18] (L2 := [(2, .pointer (some ⟨g106, 0, none⟩)), (3, .pointer (some ⟨g117, 0, none⟩)), (16, .int .i64 (IntKind.i64.wrap (p101.At + 1))), (18, .slice A102 p101.Items.length c103)]) (obs := [fun w => w.cell? ⟨g105, 1, none⟩ = some (.int .i64 p101.At), fun w => w.cell? ⟨g105, 0, none⟩ = some (.slice A102 p101.Items.length c103)]) (by kernel_rfl) (by kernel_rfl) (by kernel_rfl) (.inr fun w hs => ⟨hs.var (k := 0) rfl 1 rfl, hs.var (k := 0) rfl 0 rfl⟩) (fun w hS => ⟨hS.1, hS.2⟩) (fun w hs => ⟨hs.var (k := 0) rfl 1 rfl, hs.var (k := 0) rfl 0 rfl⟩) ?_
      refine at_x1 3 5 (#[true, true, true, true, true, true, false, false, false]) rfl (by kernel_rfl) (by kernel_rfl) rfl rfl ?_
      obtain ⟨b10, H223, H⟩ := bind_some H
      have hm_ := impl_size_int64_60.calls (I0 := I) H223 hr104
      refine eff_call rfl rfl ok60 rfl rfl (show Meets Try.prog 60 ([.slice A102 p101.Items.length c103] : List Value).toArray _ [] _ from hm_) (Mr := ([(g105, .cells #[.slice A102 p101.Items.length c103, .int .i64 p101.At] 38 (0, 0))] :: [(g106, .cells #[.slice none ([] : List (List Int)).length 0, .int .i64 0] 38 (0, 0))] :: [(g117, .cells #[.slice A113 b9.Items.length c114, .int .i64 b9.At] 38 (0, 0))] :: s115 :: Fs)) (List.Perm.refl _) (fun v224 J225 M226 hq227 hJ228 => ?_)
      replace hle := hle.trans hJ228
      replace ho116 := ho116.mono hJ228
      replace hr104 := hr104.mono hJ228
      obtain ⟨rfl, rfl⟩ := hq227
      refine at_xS (fun w hs => ⟨hs.var (k := 0) rfl 1 rfl, hs.var (k := 0) rfl 0 rfl⟩) ?_
      obtain ⟨h229, H⟩ := ite_some H
      refine at_xseg [6, 7] 1 (#[true, true, true, true, true, true, true, true, false]) rfl (by kernel_rfl) [] [2, 3, 20, 21] (L2 := [(2, .pointer (some ⟨g106, 0, none⟩)), (3, .pointer (some ⟨g117, 0, none⟩)), (20, .int .i64 ((IntKind.i64.wrap (p101.At + 1)).tmod b10)), (21, .pointer (some ⟨g117, 1, none⟩))]) (obs := [fun _ => ¬ b10 = 0]) (by kernel_rfl) (by kernel_rfl) (by kernel_rfl) (.inr fun w hs => ⟨hs.var (k := 0) rfl 1 rfl, hs.var (k := 0) rfl 0 rfl⟩) (fun w hS => h229) (fun w hs => h229) ?_
      refine at_x1 0 8 (#[true, true, true, true, true, true, true, true, true]) rfl (by kernel_rfl) (by kernel_rfl) rfl rfl ?_
      refine eff_store 2 rfl rfl rfl rfl rfl rfl (.inl (Nat.le_refl _)) rfl (Nat.le_of_ble_eq_true (by kernel_rfl)) rfl ?_
      refine at_xX (by kernel_rfl) ?_
      refine at_xend (by kernel_rfl) ?_
      refine at_thn ?_
      refine at_seq ?_
      refine at_ops [0, 1] rfl ?_
      refine at_seg [0] [1] rfl [(0, .agg #[.slice A113 b9.Items.length c114, .int .i64 ((IntKind.i64.wrap (p101.At + 1)).tmod b10)])] [2, 22] (L2 := [(2, .pointer (some ⟨g106, 0, none⟩)), (22, .agg #[.slice A113 b9.Items.length c114, .int .i64 ((IntKind.i64.wrap (p101.At + 1)).tmod b10)])]) (obs := [fun w => CellsAt w ⟨g117, 0, none⟩ [.slice A113 b9.Items.length c114, .int .i64 ((IntKind.i64.wrap (p101.At + 1)).tmod b10)] 0]) (by kernel_rfl) ?_ ?_
      · intro w hs; exact cellsV (k := 2) hs rfl _ 0 (Nat.le_of_ble_eq_true (by kernel_rfl)) rfl
      refine at_eff rfl rfl ?_
      refine eff_store 1 rfl rfl rfl rfl rfl rfl (.inl (Nat.le_refl _)) rfl (Nat.le_of_ble_eq_true (by kernel_rfl)) rfl ?_
      refine at_end ?_
      refine at_thn ?_
      refine at_ret ?_
      obtain rfl := Option.some.inj H
      refine at_drop (k := 0) rfl rfl ?_
      refine at_drop (k := 1) rfl rfl ?_
      refine at_perm ((perm_at (k := 1) rfl).trans ((List.Perm.refl _).cons _)) ?_
      refine at_done (vs := [.agg #[.slice A113 b9.Items.length c114, .int .i64 ((IntKind.i64.wrap (p101.At + 1)).tmod b10)]]) (obs := [fun w => CellsAt w ⟨g106, 0, none⟩ [.slice A113 b9.Items.length c114, .int .i64 ((IntKind.i64.wrap (p101.At + 1)).tmod b10)] 0]) (.inl rfl) [.cell 2 38] [(2, .agg #[.slice A113 b9.Items.length c114, .int .i64 ((IntKind.i64.wrap (p101.At + 1)).tmod b10)])] rfl (by kernel_rfl) (fun w hs => cellsV (k := 1) hs rfl _ 0 (Nat.le_of_ble_eq_true (by kernel_rfl)) rfl) (fun w hs => ⟨_, _, [s115], rfl, ⟨A113, c114, s115, rfl, rfl, ho116⟩, hle, (hs.tail (perm_at (k := 1) rfl))⟩)
    · rw [if_neg h222] at H
      refine at_cond_f rfl (ff_of h222) ?_
      refine at_skip ?_
      refine at_thn ?_
      refine at_seq ?_
      refine at_ops [0, 1] rfl ?_
      refine at_seg [0] [1] rfl [(0, .agg #[.slice A113 b9.Items.length c114, .int .i64 b9.At])] [2, 22] (L2 := [(2, .pointer (some ⟨g106, 0, none⟩)), (22, .agg #[.slice A113 b9.Items.length c114, .int .i64 b9.At])]) (obs := [fun w => CellsAt w ⟨g117, 0, none⟩ [.slice A113 b9.Items.length c114, .int .i64 b9.At] 0]) (by kernel_rfl) ?_ ?_
      · intro w hs; exact cellsV (k := 2) hs rfl _ 0 (Nat.le_of_ble_eq_true (by kernel_rfl)) rfl
      refine at_eff rfl rfl ?_
      refine eff_store 1 rfl rfl rfl rfl rfl rfl (.inl (Nat.le_refl _)) rfl (Nat.le_of_ble_eq_true (by kernel_rfl)) rfl ?_
      refine at_end ?_
      refine at_thn ?_
      refine at_ret ?_
      obtain rfl := Option.some.inj H
      refine at_drop (k := 0) rfl rfl ?_
      refine at_drop (k := 1) rfl rfl ?_
      refine at_perm ((perm_at (k := 1) rfl).trans ((List.Perm.refl _).cons _)) ?_
      refine at_done (vs := [.agg #[.slice A113 b9.Items.length c114, .int .i64 b9.At]]) (obs := [fun w => CellsAt w ⟨g106, 0, none⟩ [.slice A113 b9.Items.length c114, .int .i64 b9.At] 0]) (.inl rfl) [.cell 2 38] [(2, .agg #[.slice A113 b9.Items.length c114, .int .i64 b9.At])] rfl (by kernel_rfl) (fun w hs => cellsV (k := 1) hs rfl _ 0 (Nat.le_of_ble_eq_true (by kernel_rfl)) rfl) (fun w hs => ⟨_, _, [s115], rfl, ⟨A113, c114, s115, rfl, rfl, ho116⟩, hle, (hs.tail (perm_at (k := 1) rfl))⟩)
  · intro Jn118
    refine at_ops [0, 1, 2, 3, 4, 5, 6, 7] rfl ?_
    refine at_seg [0] [1, 2, 3, 4, 5, 6, 7] rfl [(0, .agg #[.slice A102 p101.Items.length c103, .int .i64 p101.At])] [1, 2, 3, 6] (L2 := [(1, .pointer (some ⟨g105, 0, none⟩)), (2, .pointer (some ⟨g106, 0, none⟩)), (3, .pointer (some ⟨g117, 0, none⟩)), (6, .agg #[.slice A102 p101.Items.length c103, .int .i64 p101.At])]) (obs := [fun w => CellsAt w ⟨g105, 0, none⟩ [.slice A102 p101.Items.length c103, .int .i64 p101.At] 0]) (by kernel_rfl) ?_ ?_
    · intro w hs; exact cellsV (k := 3) hs rfl _ 0 (Nat.le_of_ble_eq_true (by kernel_rfl)) rfl
    refine at_eff rfl rfl ?_
    obtain ⟨b11, H230, H⟩ := bind_some H
    have hm_ := impl_RingRight.calls (I0 := J109) H230 hr104
    refine eff_call rfl rfl ok26 rfl rfl (show Meets Try.prog 26 ([.agg #[.slice A102 p101.Items.length c103, .int .i64 p101.At]] : List Value).toArray _ [] _ from hm_) (Mr := ([(g117, .cells #[.slice A113 b9.Items.length c114, .int .i64 b9.At] 38 (0, 0))] :: s115 :: [(g106, .cells #[.slice none ([] : List (List Int)).length 0, .int .i64 0] 38 (0, 0))] :: [(g105, .cells #[.slice A102 p101.Items.length c103, .int .i64 p101.At] 38 (0, 0))] :: Fs)) (List.Perm.refl _) (fun v231 J232 M233 hq234 hJ235 => ?_)
    replace hle := hle.trans hJ235
    replace ho116 := ho116.mono hJ235
    replace hr104 := hr104.mono hJ235
    obtain ⟨rfl, rfl⟩ := hq234
    by_cases h236 : b11 = true
    · rw [if_pos h236] at H
      refine at_seg [2, 3, 4, 5, 6, 7] [] rfl [(2, .bool true), (4, .slice A102 p101.Items.length c103)] [1, 2, 3, 13] (L2 := [(1, .pointer (some ⟨g105, 0, none⟩)), (2, .pointer (some ⟨g106, 0, none⟩)), (3, .pointer (some ⟨g117, 0, none⟩)), (13, .bool (decide ((p101.Items.length : Int) > 0)))]) (obs := [fun _ => (.bool b11 : Value) = .bool true, fun w => w.cell? ⟨g105, 0, none⟩ = some (.slice A102 p101.Items.length c103)]) (by kernel_rfl) ?_ ?_
      · intro w hs; exact ⟨congrArg Value.bool (h236), hs.var (k := 3) rfl 0 rfl⟩
      refine at_end ?_
      refine at_thn ?_
      refine at_perm ((perm_at (k := 3) rfl).trans (((perm_at (k := 2) rfl).trans ((List.Perm.refl _).cons _)).cons _)) ?_
      refine at_keep [1, 2, 3, 13] (L2 := [(1, .pointer (some ⟨g105, 0, none⟩)), (2, .pointer (some ⟨g106, 0, none⟩)), (3, .pointer (some ⟨g117, 0, none⟩)), (13, .bool (decide ((p101.Items.length : Int) > 0)))]) rfl ?_
      exact Jn118 _ _ _ ⟨_, decide ((p101.Items.length : Int) > 0), rfl, rfl, H, hle, by omega, ho116, hr104⟩
    · rw [if_neg h236] at H
      refine at_seg [2, 3, 4, 5, 6, 7] [] rfl [(2, .bool false)] [1, 2, 3, 13] (L2 := [(1, .pointer (some ⟨g105, 0, none⟩)), (2, .pointer (some ⟨g106, 0, none⟩)), (3, .pointer (some ⟨g117, 0, none⟩)), (13, .bool false)]) (obs := [fun _ => (.bool b11 : Value) = .bool false]) (by kernel_rfl) ?_ ?_
      · intro w hs; exact congrArg Value.bool (ff_of h236)
      refine at_end ?_
      refine at_thn ?_
      refine at_perm ((perm_at (k := 3) rfl).trans (((perm_at (k := 2) rfl).trans ((List.Perm.refl _).cons _)).cons _)) ?_
      refine at_keep [1, 2, 3, 13] (L2 := [(1, .pointer (some ⟨g105, 0, none⟩)), (2, .pointer (some ⟨g106, 0, none⟩)), (3, .pointer (some ⟨g117, 0, none⟩)), (13, .bool false)]) rfl ?_
      exact Jn118 _ _ _ ⟨_, false, rfl, rfl, H, hle, by omega, ho116, hr104⟩
end Go.Proofs.Ytocfakbgefdgkaa
