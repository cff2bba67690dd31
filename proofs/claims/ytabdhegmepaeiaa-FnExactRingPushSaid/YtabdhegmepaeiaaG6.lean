import Derived.Test.YtabdhegmepaeiaaG5
namespace Go.Proofs.Ytabdhegmepaeiaa
open Go Eng
set_option linter.unusedVariables false
set_option linter.unusedSimpArgs false
/-! ### loop.example/g00146/impl.RingPush: function 10 -/
mutual
def impl_RingPush_j1 : Nat → Bool → T_impl_Ring → (List Int) → Option T_impl_Ring
  | 0, _, _, _ => none
  | k + 1, x308, p76, p80 => if x308 = true then ((impl_ownRing k p76).bind fun b9 => (some b9)) else (impl_RingPush_j0 k p76 p80)
def impl_RingPush_j0 : Nat → T_impl_Ring → (List Int) → Option T_impl_Ring
  | 0, _, _ => none
  | k + 1, p76, p80 => (impl_push k p76 p80).bind fun b7 => (some b7)
end
def impl_RingPush (k : Nat) (p76 : T_impl_Ring) (p80 : List Int) : Option T_impl_Ring := (impl_isMany (p80.length : Int)).bind fun b8 => (if b8 = true then (some (⟨([] : List (List Int)), 0⟩ : T_impl_Ring)) else ((impl_RingRight k p76).bind fun b10 => (if b10 = true then ((impl_isItem k p80).bind fun b11 => (impl_RingPush_j1 k (!b11) p76 p80)) else (impl_RingPush_j1 k true p76 p80))))
set_option maxHeartbeats 4000000 in
set_option maxRecDepth 100000 in
theorem impl_RingPush.calls {k : Nat} {p76 : T_impl_Ring} {p80 : List Int} {r : T_impl_Ring} {I0 : Imm} {A77 : Option Addr} {c78 : Nat} {A81 : Option Addr} {c82 : Nat} (H : impl_RingPush k p76 p80 = some r) (hr79 : Rd (Kd.slice (Kd.int .i64)) I0 A77 c78 p76.Items) (hr83 : Rd (Kd.int .i64) I0 A81 c82 p80) :
    Meets Try.prog 10 ([.agg #[.slice A77 p76.Items.length c78, .int .i64 p76.At], .slice A81 p80.length c82] : List Value).toArray I0 [] (fun v J M => ∃ (A_1 : Option Addr) (c_2 : Nat) (s_3 : Seg), v = .agg #[.slice A_1 r.Items.length c_2, .int .i64 r.At] ∧ M = [s_3] ∧ DOwn (DK.sl (Kd.int .i64) 2) 25 J A_1 c_2 r.Items s_3) := by
  have hle := ImmLe.refl I0
  unfold impl_RingPush at H
  refine fn_intro (fn := Try.f10) 24 Try.func10 rfl rfl rfl (fun E Fs => ?_)
  refine at_seq ?_
  refine at_ops [0, 1] rfl ?_
  refine at_eff rfl rfl ?_
  refine eff_box rfl rfl rfl #[.slice A77 p76.Items.length c78, .int .i64 p76.At] rfl (fun g84 => ?_)
  refine at_eff rfl rfl ?_
  obtain ⟨i_, hi_, hz_, _, _⟩ := info27
  refine eff_alloc rfl rfl hi_ hz_ #[.slice none ([] : List (List Int)).length 0, .int .i64 0] rfl (fun g85 => ?_)
  refine at_end ?_
  refine at_thn ?_
  refine at_join (fun L I Ms => ∃ (k187 : Nat), L = [(1, .slice A81 p80.length c82), (2, .pointer (some ⟨g84, 0, none⟩)), (4, .pointer (some ⟨g85, 0, none⟩))] ∧ Ms = ([(g84, .cells #[.slice A77 p76.Items.length c78, .int .i64 p76.At] 27 (0, 0))] :: [(g85, .cells #[.slice none ([] : List (List Int)).length 0, .int .i64 0] 27 (0, 0))] :: Fs) ∧ impl_RingPush_j0 k187 p76 p80 = some r ∧ ImmLe I0 I ∧ k187 ≤ k ∧ Rd (Kd.slice (Kd.int .i64)) I A77 c78 p76.Items ∧ Rd (Kd.int .i64) I A81 c82 p80) ?_ ?_
  · clear H hle hr79 hr83
    intro L I Ms h_; obtain ⟨k187, hL_, hM_, H, hle, hk188, hr79, hr83⟩ := h_; rw [hL_, hM_]; clear hL_ hM_ L Ms
    rcases k187 with _ | k187
    · exact (no_none H).elim
    rw [impl_RingPush_j0] at H
    refine at_seq ?_
    refine at_ops [0, 1, 2, 3] rfl ?_
    refine at_seg [0, 1] [2, 3] rfl [(0, .agg #[.slice A77 p76.Items.length c78, .int .i64 p76.At])] [4, 21, 22] (L2 := [(4, .pointer (some ⟨g85, 0, none⟩)), (21, .agg #[.slice A77 p76.Items.length c78, .int .i64 p76.At]), (22, .slice A81 p80.length c82)]) (obs := [fun w => CellsAt w ⟨g84, 0, none⟩ [.slice A77 p76.Items.length c78, .int .i64 p76.At] 0]) (by kernel_rfl) ?_ ?_
    · intro w hs; exact cellsV (k := 0) hs rfl _ 0 (Nat.le_of_ble_eq_true (by kernel_rfl)) rfl
    refine at_eff rfl rfl ?_
    obtain ⟨b7, H189, H⟩ := bind_some H
    have hm_ := impl_push.calls (I0 := I) H189 hr79 hr83
    refine eff_call rfl rfl ok35 rfl rfl (show Meets Try.prog 35 ([.agg #[.slice A77 p76.Items.length c78, .int .i64 p76.At], .slice A81 p80.length c82] : List Value).toArray _ [] _ from hm_) (Mr := ([(g84, .cells #[.slice A77 p76.Items.length c78, .int .i64 p76.At] 27 (0, 0))] :: [(g85, .cells #[.slice none ([] : List (List Int)).length 0, .int .i64 0] 27 (0, 0))] :: Fs)) (List.Perm.refl _) (fun v190 J191 M192 hq193 hJ194 => ?_)
    replace hle := hle.trans hJ194
    replace hr79 := hr79.mono hJ194
    replace hr83 := hr83.mono hJ194
    obtain ⟨A195, c196, s197, rfl, rfl, ho198⟩ := hq193
    refine at_eff rfl rfl ?_
    refine eff_store 2 rfl rfl rfl rfl rfl rfl (.inl (Nat.le_refl _)) rfl (Nat.le_of_ble_eq_true (by kernel_rfl)) rfl ?_
    refine at_end ?_
    refine at_thn ?_
    refine at_ret ?_
    obtain rfl := Option.some.inj H
    refine at_drop (k := 1) rfl rfl ?_
    refine at_done (vs := [.agg #[.slice A195 b7.Items.length c196, .int .i64 b7.At]]) (obs := [fun w => CellsAt w ⟨g85, 0, none⟩ [.slice A195 b7.Items.length c196, .int .i64 b7.At] 0]) (.inl rfl) [.cell 4 27] [(4, .agg #[.slice A195 b7.Items.length c196, .int .i64 b7.At])] rfl (by kernel_rfl) (fun w hs => cellsV (k := 1) hs rfl _ 0 (Nat.le_of_ble_eq_true (by kernel_rfl)) rfl) (fun w hs => ⟨_, _, [s197], rfl, ⟨A195, c196, s197, rfl, rfl, ho198⟩, hle, (hs.tail (perm_at (k := 1) rfl))⟩)
  · intro Jn86
    refine at_block ?_
    refine at_seq ?_
    refine at_ops [0, 1, 2, 3] rfl ?_
    refine at_seg [0, 1] [2, 3] rfl [] [1, 2, 4, 7] (L2 := [(1, .slice A81 p80.length c82), (2, .pointer (some ⟨g84, 0, none⟩)), (4, .pointer (some ⟨g85, 0, none⟩)), (7, .int .i64 (p80.length : Int))]) (obs := []) (by kernel_rfl) ?_ ?_
    · intro w hs; exact trivial
    refine at_eff rfl rfl ?_
    obtain ⟨b8, H199, H⟩ := bind_some H
    have hm_ := impl_isMany.calls (I0 := I0) H199
    refine eff_call rfl rfl ok32 rfl rfl (show Meets Try.prog 32 ([.int .i64 (p80.length : Int)] : List Value).toArray _ [] _ from hm_) (Mr := ([(g85, .cells #[.slice none ([] : List (List Int)).length 0, .int .i64 0] 27 (0, 0))] :: [(g84, .cells #[.slice A77 p76.Items.length c78, .int .i64 p76.At] 27 (0, 0))] :: Fs)) (List.Perm.refl _) (fun v200 J201 M202 hq203 hJ204 => ?_)
    replace hle := hle.trans hJ204
    replace hr79 := hr79.mono hJ204
    replace hr83 := hr83.mono hJ204
    obtain ⟨rfl, rfl⟩ := hq203
    refine at_seg [3] [] rfl [] [1, 2, 4, 5] (L2 := [(1, .slice A81 p80.length c82), (2, .pointer (some ⟨g84, 0, none⟩)), (4, .pointer (some ⟨g85, 0, none⟩)), (5, .bool b8)]) (obs := []) (by kernel_rfl) ?_ ?_
    · intro w hs; exact trivial
    refine at_end ?_
    refine at_thn ?_
    by_cases h205 : b8 = true
    · rw [if_pos h205] at H
      refine at_cond_t rfl (h205) ?_
      refine at_seq ?_
      refine at_ops [0, 1] rfl ?_
      refine at_seg [0] [1] rfl [] [4, 9] (L2 := [(4, .pointer (some ⟨g85, 0, none⟩)), (9, .agg #[.slice none ([] : List (List Int)).length 0, .int .i64 0])]) (obs := []) (by kernel_rfl) ?_ ?_
      · intro w hs; exact trivial
      refine at_eff rfl rfl ?_
      refine eff_store 0 rfl rfl rfl rfl rfl rfl (.inl (Nat.le_refl _)) rfl (Nat.le_of_ble_eq_true (by kernel_rfl)) rfl ?_
      refine at_end ?_
      refine at_thn ?_
      refine at_ret ?_
      refine at_in_ret ?_
      refine at_then_ret ?_
      refine at_nilseg ?_
      have hd206 := DOwn.nil (DK.sl (Kd.int .i64) 2) 25 J201
      obtain rfl := Option.some.inj H
      refine at_drop (k := 2) rfl rfl ?_
      refine at_done (vs := [.agg #[.slice none ([] : List (List Int)).length 0, .int .i64 0]]) (obs := [fun w => CellsAt w ⟨g85, 0, none⟩ [.slice none ([] : List (List Int)).length 0, .int .i64 0] 0]) (.inl rfl) [.cell 4 27] [(4, .agg #[.slice none ([] : List (List Int)).length 0, .int .i64 0])] rfl (by kernel_rfl) (fun w hs => cellsV (k := 1) hs rfl _ 0 (Nat.le_of_ble_eq_true (by kernel_rfl)) rfl) (fun w hs => ⟨_, _, [[]], rfl, ⟨none, 0, [], rfl, rfl, hd206⟩, hle, (hs.tail (perm_at (k := 1) rfl))⟩)
    · rw [if_neg h205] at H
      refine at_cond_f rfl (ff_of h205) ?_
      refine at_join (fun L I Ms => ∃ (k309 : Nat), ∃ (x308 : Bool), L = [(1, .slice A81 p80.length c82), (2, .pointer (some ⟨g84, 0, none⟩)), (4, .pointer (some ⟨g85, 0, none⟩)), (10, .bool x308)] ∧ Ms = ([(g84, .cells #[.slice A77 p76.Items.length c78, .int .i64 p76.At] 27 (0, 0))] :: [(g85, .cells #[.slice none ([] : List (List Int)).length 0, .int .i64 0] 27 (0, 0))] :: Fs) ∧ impl_RingPush_j1 k309 x308 p76 p80 = some r ∧ ImmLe I0 I ∧ k309 ≤ k ∧ Rd (Kd.slice (Kd.int .i64)) I A77 c78 p76.Items ∧ Rd (Kd.int .i64) I A81 c82 p80) ?_ ?_
      · clear H hle hr79 hr83
        intro L I Ms h_; obtain ⟨k309, x308, hL_, hM_, H, hle, hk310, hr79, hr83⟩ := h_; rw [hL_, hM_]; clear hL_ hM_ L Ms
        rcases k309 with _ | k309
        · exact (no_none H).elim
        rw [impl_RingPush_j1] at H
        by_cases h311 : x308 = true
        · rw [if_pos h311] at H
          refine at_cond_t rfl (h311) ?_
          refine at_seq ?_
          refine at_ops [0, 1, 2] rfl ?_
          refine at_seg [0] [1, 2] rfl [(0, .agg #[.slice A77 p76.Items.length c78, .int .i64 p76.At])] [4, 19] (L2 := [(4, .pointer (some ⟨g85, 0, none⟩)), (19, .agg #[.slice A77 p76.Items.length c78, .int .i64 p76.At])]) (obs := [fun w => CellsAt w ⟨g84, 0, none⟩ [.slice A77 p76.Items.length c78, .int .i64 p76.At] 0]) (by kernel_rfl) ?_ ?_
          · intro w hs; exact cellsV (k := 0) hs rfl _ 0 (Nat.le_of_ble_eq_true (by kernel_rfl)) rfl
          refine at_eff rfl rfl ?_
          obtain ⟨b9, H312, H⟩ := bind_some H
          have hm_ := impl_ownRing.calls (I0 := I) H312 hr79
          refine eff_call rfl rfl ok34 rfl rfl (show Meets Try.prog 34 ([.agg #[.slice A77 p76.Items.length c78, .int .i64 p76.At]] : List Value).toArray _ [] _ from hm_) (Mr := ([(g84, .cells #[.slice A77 p76.Items.length c78, .int .i64 p76.At] 27 (0, 0))] :: [(g85, .cells #[.slice none ([] : List (List Int)).length 0, .int .i64 0] 27 (0, 0))] :: Fs)) (List.Perm.refl _) (fun v313 J314 M315 hq316 hJ317 => ?_)
          replace hle := hle.trans hJ317
          replace hr79 := hr79.mono hJ317
          obtain ⟨A318, c319, s320, rfl, rfl, ho321⟩ := hq316
          refine at_eff rfl rfl ?_
          refine eff_store 2 rfl rfl rfl rfl rfl rfl (.inl (Nat.le_refl _)) rfl (Nat.le_of_ble_eq_true (by kernel_rfl)) rfl ?_
          refine at_end ?_
          refine at_thn ?_
          refine at_ret ?_
          refine at_in_ret ?_
          refine at_then_ret ?_
          obtain rfl := Option.some.inj H
          refine at_drop (k := 1) rfl rfl ?_
          refine at_done (vs := [.agg #[.slice A318 b9.Items.length c319, .int .i64 b9.At]]) (obs := [fun w => CellsAt w ⟨g85, 0, none⟩ [.slice A318 b9.Items.length c319, .int .i64 b9.At] 0]) (.inl rfl) [.cell 4 27] [(4, .agg #[.slice A318 b9.Items.length c319, .int .i64 b9.At])] rfl (by kernel_rfl) (fun w hs => cellsV (k := 1) hs rfl _ 0 (Nat.le_of_ble_eq_true (by kernel_rfl)) rfl) (fun w hs => ⟨_, _, [s320], rfl, ⟨A318, c319, s320, rfl, rfl, ho321⟩, hle, (hs.tail (perm_at (k := 1) rfl))⟩)
        · rw [if_neg h311] at H
          refine at_cond_f rfl (ff_of h311) ?_
          refine at_skip ?_
          refine at_in_norm ?_
          refine at_thn ?_
          refine at_keep [1, 2, 4] (L2 := [(1, .slice A81 p80.length c82), (2, .pointer (some ⟨g84, 0, none⟩)), (4, .pointer (some ⟨g85, 0, none⟩))]) rfl ?_
          exact Jn86 _ _ _ ⟨_, rfl, rfl, H, hle, by omega, hr79, hr83⟩
      · intro Jn207
        refine at_ops [0, 1, 2, 3, 4, 5, 6, 7, 8] rfl ?_
        refine at_seg [0] [1, 2, 3, 4, 5, 6, 7, 8] rfl [(0, .agg #[.slice A77 p76.Items.length c78, .int .i64 p76.At])] [1, 2, 4, 11] (L2 := [(1, .slice A81 p80.length c82), (2, .pointer (some ⟨g84, 0, none⟩)), (4, .pointer (some ⟨g85, 0, none⟩)), (11, .agg #[.slice A77 p76.Items.length c78, .int .i64 p76.At])]) (obs := [fun w => CellsAt w ⟨g84, 0, none⟩ [.slice A77 p76.Items.length c78, .int .i64 p76.At] 0]) (by kernel_rfl) ?_ ?_
        · intro w hs; exact cellsV (k := 1) hs rfl _ 0 (Nat.le_of_ble_eq_true (by kernel_rfl)) rfl
        refine at_eff rfl rfl ?_
        obtain ⟨b10, H322, H⟩ := bind_some H
        have hm_ := impl_RingRight.calls (I0 := J201) H322 hr79
        refine eff_call rfl rfl ok21 rfl rfl (show Meets Try.prog 21 ([.agg #[.slice A77 p76.Items.length c78, .int .i64 p76.At]] : List Value).toArray _ [] _ from hm_) (Mr := ([(g85, .cells #[.slice none ([] : List (List Int)).length 0, .int .i64 0] 27 (0, 0))] :: [(g84, .cells #[.slice A77 p76.Items.length c78, .int .i64 p76.At] 27 (0, 0))] :: Fs)) (List.Perm.refl _) (fun v323 J324 M325 hq326 hJ327 => ?_)
        replace hle := hle.trans hJ327
        replace hr79 := hr79.mono hJ327
        replace hr83 := hr83.mono hJ327
        obtain ⟨rfl, rfl⟩ := hq326
        by_cases h328 : b10 = true
        · rw [if_pos h328] at H
          refine at_seg [2, 3, 4] [5, 6, 7, 8] rfl [(3, .bool false)] [1, 2, 4, 14, 15] (L2 := [(1, .slice A81 p80.length c82), (2, .pointer (some ⟨g84, 0, none⟩)), (4, .pointer (some ⟨g85, 0, none⟩)), (14, .bool false), (15, .slice A81 p80.length c82)]) (obs := [fun _ => (.bool (!b10) : Value) = .bool false]) (by kernel_rfl) ?_ ?_
          · intro w hs; exact congrArg Value.bool (not_ff (h328))
          refine at_eff rfl rfl ?_
          obtain ⟨b11, H329, H⟩ := bind_some H
          have hm_ := impl_isItem.calls (I0 := J324) H329 hr83
          refine eff_call rfl rfl ok33 rfl rfl (show Meets Try.prog 33 ([.slice A81 p80.length c82] : List Value).toArray _ [] _ from hm_) (Mr := ([(g85, .cells #[.slice none ([] : List (List Int)).length 0, .int .i64 0] 27 (0, 0))] :: [(g84, .cells #[.slice A77 p76.Items.length c78, .int .i64 p76.At] 27 (0, 0))] :: Fs)) (List.Perm.refl _) (fun v330 J331 M332 hq333 hJ334 => ?_)
          replace hle := hle.trans hJ334
          replace hr79 := hr79.mono hJ334
          replace hr83 := hr83.mono hJ334
          obtain ⟨rfl, rfl⟩ := hq333
          refine at_seg [6, 7, 8] [] rfl [] [1, 2, 4, 10] (L2 := [(1, .slice A81 p80.length c82), (2, .pointer (some ⟨g84, 0, none⟩)), (4, .pointer (some ⟨g85, 0, none⟩)), (10, .bool (!b11))]) (obs := []) (by kernel_rfl) ?_ ?_
          · intro w hs; exact trivial
          refine at_end ?_
          refine at_thn ?_
          refine at_perm ((perm_at (k := 1) rfl).trans ((List.Perm.refl _).cons _)) ?_
          refine at_keep [1, 2, 4, 10] (L2 := [(1, .slice A81 p80.length c82), (2, .pointer (some ⟨g84, 0, none⟩)), (4, .pointer (some ⟨g85, 0, none⟩)), (10, .bool (!b11))]) rfl ?_
          exact Jn207 _ _ _ ⟨_, (!b11), rfl, rfl, H, hle, by omega, hr79, hr83⟩
        · rw [if_neg h328] at H
          refine at_seg [2, 3, 4] [5, 6, 7, 8] rfl [(3, .bool true)] [1, 2, 4, 14, 15] (L2 := [(1, .slice A81 p80.length c82), (2, .pointer (some ⟨g84, 0, none⟩)), (4, .pointer (some ⟨g85, 0, none⟩)), (14, .bool true), (15, undef)]) (obs := [fun _ => (.bool (!b10) : Value) = .bool true]) (by kernel_rfl) ?_ ?_
          · intro w hs; exact congrArg Value.bool (not_tt (ff_of h328))
          refine at_seg [5, 6, 7, 8] [] rfl [] [1, 2, 4, 10] (L2 := [(1, .slice A81 p80.length c82), (2, .pointer (some ⟨g84, 0, none⟩)), (4, .pointer (some ⟨g85, 0, none⟩)), (10, .bool true)]) (obs := []) (by kernel_rfl) ?_ ?_
          · intro w hs; exact trivial
          refine at_end ?_
          refine at_thn ?_
          refine at_perm ((perm_at (k := 1) rfl).trans ((List.Perm.refl _).cons _)) ?_
          refine at_keep [1, 2, 4, 10] (L2 := [(1, .slice A81 p80.length c82), (2, .pointer (some ⟨g84, 0, none⟩)), (4, .pointer (some ⟨g85, 0, none⟩)), (10, .bool true)]) rfl ?_
          exact Jn207 _ _ _ ⟨_, true, rfl, rfl, H, hle, by omega, hr79, hr83⟩

/-! ### loop.example/g00146/laws.eqInt64S: function 12 -/
def laws_eqInt64S_l0 : Nat → Int → (List Int) → (List Int) → Option Bool
  | 0, _, _, _ => none
  | k + 1, x136, p127, p131 => if x136 < (p127.length : Int) then (if 0 ≤ x136 then (if x136 < (p131.length : Int) then (if (rdA 0 p127 x136) = (rdA 0 p131 x136) then (laws_eqInt64S_l0 k (IntKind.i64.wrap (x136 + 1)) p127 p131) else (some false)) else none) else none) else (some true)
def laws_eqInt64S (k : Nat) (p127 : List Int) (p131 : List Int) : Option Bool := if (p127.length : Int) = (p131.length : Int) then (laws_eqInt64S_l0 k 0 p127 p131) else (some false)
set_option maxHeartbeats 4000000 in
set_option maxRecDepth 100000 in
theorem laws_eqInt64S.calls {k : Nat} {p127 : List Int} {p131 : List Int} {r : Bool} {I0 : Imm} {A128 : Option Addr} {c129 : Nat} {A132 : Option Addr} {c133 : Nat} (H : laws_eqInt64S k p127 p131 = some r) (hr130 : Rd (Kd.int .i64) I0 A128 c129 p127) (hr134 : Rd (Kd.int .i64) I0 A132 c133 p131) :
    Meets Try.prog 12 ([.slice A128 p127.length c129, .slice A132 p131.length c133] : List Value).toArray I0 [] (fun v J M => v = .bool r ∧ M = []) := by
  have hle := ImmLe.refl I0
  unfold laws_eqInt64S at H
  refine fn_intro (fn := Try.f12) 26 Try.func12 rfl rfl rfl (fun E Fs => ?_)
  refine at_seq ?_
  refine at_reg [] [0, 1] (L2 := [(0, .slice A128 p127.length c129), (1, .slice A132 p131.length c133)]) (obs := []) (by kernel_rfl) ?_ ?_
  · intro w hs; exact trivial
  refine at_thn ?_
  refine at_seq ?_
  refine at_seq ?_
  refine at_reg [] [0, 1, 10] (L2 := [(0, .slice A128 p127.length c129), (1, .slice A132 p131.length c133), (10, .bool ((p127.length : Int) != (p131.length : Int)))]) (obs := []) (by kernel_rfl) ?_ ?_
  · intro w hs; exact trivial
  refine at_thn ?_
  by_cases h135 : (p127.length : Int) = (p131.length : Int)
  · rw [if_pos h135] at H
    refine at_cond_f rfl (bne_eq_false_iff_eq.2 h135) ?_
    refine at_skip ?_
    refine at_thn ?_
    refine at_seq ?_
    refine at_seq ?_
    refine at_reg [] [0, 1, 5] (L2 := [(0, .slice A128 p127.length c129), (1, .slice A132 p131.length c133), (5, .int .i64 0)]) (obs := []) (by kernel_rfl) ?_ ?_
    · intro w hs; exact trivial
    refine at_thn ?_
    refine at_block ?_
    refine at_keep [0, 1, 5] (L2 := [(0, .slice A128 p127.length c129), (1, .slice A132 p131.length c133), (5, .int .i64 0)]) rfl ?_
    refine at_loop (fun k137 L I Ms => ∃ (x136 : Int), L = [(0, .slice A128 p127.length c129), (1, .slice A132 p131.length c133), (5, .int .i64 x136)] ∧ Ms = ([] ++ Fs) ∧ laws_eqInt64S_l0 k137 x136 p127 p131 = some r ∧ ImmLe I0 I ∧ k137 ≤ k ∧ Rd (Kd.int .i64) I A128 c129 p127 ∧ Rd (Kd.int .i64) I A132 c133 p131) ?_ ?_ k ⟨0, rfl, rfl, H, hle, Nat.le_refl _, hr130, hr134⟩
    · rintro L I Ms ⟨_, rfl, rfl, H, _⟩; exact no_none H
    · clear H hle hr130 hr134
      intro k137 ih138 L I Ms h_; obtain ⟨x136, hL_, hM_, H, hle, hk139, hr130, hr134⟩ := h_; rw [hL_, hM_]; clear hL_ hM_ L Ms
      rw [laws_eqInt64S_l0] at H
      refine at_seq ?_
      refine at_seq ?_
      refine at_reg [] [0, 1, 5, 14] (L2 := [(0, .slice A128 p127.length c129), (1, .slice A132 p131.length c133), (5, .int .i64 x136), (14, .bool (decide (x136 < (p127.length : Int))))]) (obs := []) (by kernel_rfl) ?_ ?_
      · intro w hs; exact trivial
      refine at_thn ?_
      by_cases h140 : x136 < (p127.length : Int)
      · rw [if_pos h140] at H
        refine at_cond_t rfl (decide_eq_true h140) ?_
        refine at_skip ?_
        refine at_thn ?_
        refine at_seq ?_
        refine at_block ?_
        refine at_seq ?_
        obtain ⟨h141, H⟩ := ite_some H
        obtain ⟨h142, H⟩ := ite_some H
        refine at_regd hmo [(3, .int .i64 (rdA 0 p127 x136)), (7, .int .i64 (rdA 0 p131 x136))] [0, 1, 5, 25] (by kernel_rfl) (L2 := [(0, .slice A128 p127.length c129), (1, .slice A132 p131.length c133), (5, .int .i64 x136), (25, .bool ((rdA 0 p127 x136) != (rdA 0 p131 x136)))]) (obs := [fun _ => A128.isSome = true ∧ 0 ≤ x136 ∧ x136 < ((p127.length : Nat) : Int), fun w => w.cell? ((A128.getD ad0).add (x136.toNat * 1)) = some (.int .i64 (rdA 0 p127 x136)), fun _ => A132.isSome = true ∧ 0 ≤ x136 ∧ x136 < ((p131.length : Nat) : Int), fun w => w.cell? ((A132.getD ad0).add (x136.toNat * 1)) = some (.int .i64 (rdA 0 p131 x136))]) (by kernel_rfl) ?_ ?_
        · intro w hs; exact ⟨⟨hr130.ne x136 h141 h140, h141, h140⟩, hr130.one 0 x136 h141 h140 hs, ⟨hr134.ne x136 h141 h142, h141, h142⟩, hr134.one 0 x136 h141 h142 hs⟩
        refine at_thn ?_
        by_cases h143 : (rdA 0 p127 x136) = (rdA 0 p131 x136)
        · rw [if_pos h143] at H
          refine at_cond_f rfl (bne_eq_false_iff_eq.2 h143) ?_
          refine at_skip ?_
          refine at_in_norm ?_
          refine at_thn ?_
          refine at_reg [] [0, 1, 5] (L2 := [(0, .slice A128 p127.length c129), (1, .slice A132 p131.length c133), (5, .int .i64 (IntKind.i64.wrap (x136 + 1)))]) (obs := []) (by kernel_rfl) ?_ ?_
          · intro w hs; exact trivial
          refine at_thn ?_
          refine at_keep [0, 1, 5] (L2 := [(0, .slice A128 p127.length c129), (1, .slice A132 p131.length c133), (5, .int .i64 (IntKind.i64.wrap (x136 + 1)))]) rfl ?_
          exact ih138 _ (by omega) _ _ _ ⟨IntKind.i64.wrap (x136 + 1), rfl, rfl, H, hle, by omega, hr130, hr134⟩
        · rw [if_neg h143] at H
          refine at_cond_t rfl (bne_iff_ne.2 h143) ?_
          refine at_seq ?_
          refine at_reg [] [4] (L2 := [(4, .bool false)]) (obs := []) (by kernel_rfl) ?_ ?_
          · intro w hs; exact trivial
          refine at_thn ?_
          refine at_ret ?_
          refine at_in_ret ?_
          refine at_then_ret ?_
          refine at_then_ret ?_
          refine at_in_ret ?_
          refine at_then_ret ?_
          obtain rfl := Option.some.inj H
          refine at_done (vs := [.bool false]) (obs := []) (.inl rfl) [.tmp 4] [] rfl (by kernel_rfl) (fun w hs => trivial) (fun w hs => ⟨_, _, [], rfl, ⟨rfl, rfl⟩, hle, hs⟩)
      · rw [if_neg h140] at H
        refine at_cond_f rfl (decide_eq_false h140) ?_
        refine at_exit ?_
        refine at_then_exit ?_
        refine at_then_exit ?_
        refine at_in_hit ?_
        refine at_thn ?_
        refine at_seq ?_
        refine at_reg [] [4] (L2 := [(4, .bool true)]) (obs := []) (by kernel_rfl) ?_ ?_
        · intro w hs; exact trivial
        refine at_thn ?_
        refine at_ret ?_
        obtain rfl := Option.some.inj H
        refine at_done (vs := [.bool true]) (obs := []) (.inl rfl) [.tmp 4] [] rfl (by kernel_rfl) (fun w hs => trivial) (fun w hs => ⟨_, _, [], rfl, ⟨rfl, rfl⟩, hle, hs⟩)
  · rw [if_neg h135] at H
    refine at_cond_t rfl (bne_iff_ne.2 h135) ?_
    refine at_seq ?_
    refine at_reg [] [4] (L2 := [(4, .bool false)]) (obs := []) (by kernel_rfl) ?_ ?_
    · intro w hs; exact trivial
    refine at_thn ?_
    refine at_ret ?_
    refine at_then_ret ?_
    obtain rfl := Option.some.inj H
    refine at_done (vs := [.bool false]) (obs := []) (.inl rfl) [.tmp 4] [] rfl (by kernel_rfl) (fun w hs => trivial) (fun w hs => ⟨_, _, [], rfl, ⟨rfl, rfl⟩, hle, hs⟩)

/-! ### loop.example/g00146/laws.eqInt64SS: function 36 -/
def laws_eqInt64SS_l0 : Nat → Int → (List (List Int)) → (List (List Int)) → Option Bool
  | 0, _, _, _ => none
  | k + 1, x112, p103, p107 => if x112 < (p103.length : Int) then (if 0 ≤ x112 then (if x112 < (p107.length : Int) then ((laws_eqInt64S k (rdA [] p103 x112) (rdA [] p107 x112)).bind fun b8 => (if b8 = true then (laws_eqInt64SS_l0 k (IntKind.i64.wrap (x112 + 1)) p103 p107) else (some false))) else none) else none) else (some true)
def laws_eqInt64SS (k : Nat) (p103 : List (List Int)) (p107 : List (List Int)) : Option Bool := if (p103.length : Int) = (p107.length : Int) then (laws_eqInt64SS_l0 k 0 p103 p107) else (some false)
set_option maxHeartbeats 4000000 in
set_option maxRecDepth 100000 in
theorem laws_eqInt64SS.calls {k : Nat} {p103 : List (List Int)} {p107 : List (List Int)} {r : Bool} {I0 : Imm} {A104 : Option Addr} {c105 : Nat} {A108 : Option Addr} {c109 : Nat} (H : laws_eqInt64SS k p103 p107 = some r) (hr106 : Rd (Kd.slice (Kd.int .i64)) I0 A104 c105 p103) (hr110 : Rd (Kd.slice (Kd.int .i64)) I0 A108 c109 p107) :
    Meets Try.prog 36 ([.slice A104 p103.length c105, .slice A108 p107.length c109] : List Value).toArray I0 [] (fun v J M => v = .bool r ∧ M = []) := by
  have hle := ImmLe.refl I0
  unfold laws_eqInt64SS at H
  refine fn_intro (fn := Try.f36) 27 Try.func36 rfl rfl rfl (fun E Fs => ?_)
  refine at_seq ?_
  refine at_reg [] [0, 1] (L2 := [(0, .slice A104 p103.length c105), (1, .slice A108 p107.length c109)]) (obs := []) (by kernel_rfl) ?_ ?_
  · intro w hs; exact trivial
  refine at_thn ?_
  refine at_seq ?_
  refine at_seq ?_
  refine at_reg [] [0, 1, 10] (L2 := [(0, .slice A104 p103.length c105), (1, .slice A108 p107.length c109), (10, .bool ((p103.length : Int) != (p107.length : Int)))]) (obs := []) (by kernel_rfl) ?_ ?_
  · intro w hs; exact trivial
  refine at_thn ?_
  by_cases h111 : (p103.length : Int) = (p107.length : Int)
  · rw [if_pos h111] at H
    refine at_cond_f rfl (bne_eq_false_iff_eq.2 h111) ?_
    refine at_skip ?_
    refine at_thn ?_
    refine at_seq ?_
    refine at_seq ?_
    refine at_reg [] [0, 1, 5] (L2 := [(0, .slice A104 p103.length c105), (1, .slice A108 p107.length c109), (5, .int .i64 0)]) (obs := []) (by kernel_rfl) ?_ ?_
    · intro w hs; exact trivial
    refine at_thn ?_
    refine at_block ?_
    refine at_keep [0, 1, 5] (L2 := [(0, .slice A104 p103.length c105), (1, .slice A108 p107.length c109), (5, .int .i64 0)]) rfl ?_
    refine at_loop (fun k113 L I Ms => ∃ (x112 : Int), L = [(0, .slice A104 p103.length c105), (1, .slice A108 p107.length c109), (5, .int .i64 x112)] ∧ Ms = ([] ++ Fs) ∧ laws_eqInt64SS_l0 k113 x112 p103 p107 = some r ∧ ImmLe I0 I ∧ k113 ≤ k ∧ Rd (Kd.slice (Kd.int .i64)) I A104 c105 p103 ∧ Rd (Kd.slice (Kd.int .i64)) I A108 c109 p107) ?_ ?_ k ⟨0, rfl, rfl, H, hle, Nat.le_refl _, hr106, hr110⟩
    · rintro L I Ms ⟨_, rfl, rfl, H, _⟩; exact no_none H
    · clear H hle hr106 hr110
      intro k113 ih114 L I Ms h_; obtain ⟨x112, hL_, hM_, H, hle, hk115, hr106, hr110⟩ := h_; rw [hL_, hM_]; clear hL_ hM_ L Ms
      rw [laws_eqInt64SS_l0] at H
      refine at_seq ?_
      refine at_seq ?_
      refine at_reg [] [0, 1, 5, 14] (L2 := [(0, .slice A104 p103.length c105), (1, .slice A108 p107.length c109), (5, .int .i64 x112), (14, .bool (decide (x112 < (p103.length : Int))))]) (obs := []) (by kernel_rfl) ?_ ?_
      · intro w hs; exact trivial
      refine at_thn ?_
      by_cases h116 : x112 < (p103.length : Int)
      · rw [if_pos h116] at H
        refine at_cond_t rfl (decide_eq_true h116) ?_
        refine at_skip ?_
        refine at_thn ?_
        refine at_seq ?_
        refine at_block ?_
        refine at_seq ?_
        obtain ⟨h117, H⟩ := ite_some H
        obtain ⟨h124, H⟩ := ite_some H
        obtain ⟨cs122, hz123, hc118⟩ := hr106.elem [] x112 h117 h116
        obtain ⟨A119, c120, rfl, hr121⟩ := hz123
        obtain ⟨cs129, hz130, hc125⟩ := hr110.elem [] x112 h117 h124
        obtain ⟨A126, c127, rfl, hr128⟩ := hz130
        refine at_x hmo (fun w => w.cell? ((A104.getD ad0).add (x112.toNat * 1)) = some (.slice A119 (rdA [] p103 x112).length c120) ∧ w.cell? ((A108.getD ad0).add (x112.toNat * 1)) = some (.slice A126 (rdA [] p107 x112).length c127)) [] ?_
        refine at_xseg [0, 1, 2, 3, 4, 5, 6, 7] 2 (#[true, true, true, true, true, true, true, true, false, false]) rfl (by kernel_rfl) [(3, .slice A119 (rdA [] p103 x112).length c120), (7, .slice A126 (rdA [] p107 x112).length c127)] [0, 1, 5, 20, 24] (L2 := [(0, .slice A104 p103.length c105), (1, .slice A108 p107.length c109), (5, .int .i64 x112), (20, .slice A119 (rdA [] p103 x112).length c120), (24, .slice A126 (rdA [] p107 x112).length c127)]) (obs := [fun _ => A104.isSome = true ∧ 0 ≤ x112 ∧ x112 < ((p103.length : Nat) : Int), fun w => w.cell? ((A104.getD ad0).add (x112.toNat * 1)) = some (.slice A119 (rdA [] p103 x112).length c120), fun _ => A108.isSome = true ∧ 0 ≤ x112 ∧ x112 < ((p107.length : Nat) : Int), fun w => w.cell? ((A108.getD ad0).add (x112.toNat * 1)) = some (.slice A126 (rdA [] p107 x112).length c127)]) (by kernel_rfl) (by kernel_rfl) (by kernel_rfl) (.inr fun w hs => ⟨cell0 (hc118 0 _ rfl hs), cell0 (hc125 0 _ rfl hs)⟩) (fun w hS => ⟨⟨hr106.ne x112 h117 h116, h117, h116⟩, hS.1, ⟨hr110.ne x112 h117 h124, h117, h124⟩, hS.2⟩) (fun w hs => ⟨⟨hr106.ne x112 h117 h116, h117, h116⟩, cell0 (hc118 0 _ rfl hs), ⟨hr110.ne x112 h117 h124, h117, h124⟩, cell0 (hc125 0 _ rfl hs)⟩) ?_
        refine at_x1 1 8 (#[true, true, true, true, true, true, true, true, true, false]) rfl (by kernel_rfl) (by kernel_rfl) rfl rfl ?_
        obtain ⟨b8, H131, H⟩ := bind_some H
        have hm_ := laws_eqInt64S.calls (I0 := I) H131 hr121 hr128
        refine eff_call rfl rfl ok12 rfl rfl (show Meets Try.prog 12 ([.slice A119 (rdA [] p103 x112).length c120, .slice A126 (rdA [] p107 x112).length c127] : List Value).toArray _ [] _ from hm_) (Mr := (Fs)) (List.Perm.refl _) (fun v132 J133 M134 hq135 hJ136 => ?_)
        replace hle := hle.trans hJ136
        replace hr106 := hr106.mono hJ136
        replace hr110 := hr110.mono hJ136
        replace hr121 := hr121.mono hJ136
        replace hr128 := hr128.mono hJ136
        replace hc118 := hc_mono hc118 hJ136
        replace hc125 := hc_mono hc125 hJ136
        obtain ⟨rfl, rfl⟩ := hq135
        refine at_xS (fun w hs => ⟨cell0 (hc118 0 _ rfl hs), cell0 (hc125 0 _ rfl hs)⟩) ?_
        refine at_xseg [9] 0 (#[true, true, true, true, true, true, true, true, true, true]) rfl (by kernel_rfl) [] [0, 1, 5, 26] (L2 := [(0, .slice A104 p103.length c105), (1, .slice A108 p107.length c109), (5, .int .i64 x112), (26, .bool (!b8))]) (obs := []) (by kernel_rfl) (by kernel_rfl) (by kernel_rfl) (.inr fun w hs => ⟨cell0 (hc118 0 _ rfl hs), cell0 (hc125 0 _ rfl hs)⟩) (fun w hS => trivial) (fun w hs => trivial) ?_
        refine at_xend (by kernel_rfl) ?_
        refine at_thn ?_
        by_cases h137 : b8 = true
        · rw [if_pos h137] at H
          refine at_cond_f rfl (not_ff (h137)) ?_
          refine at_skip ?_
          refine at_in_norm ?_
          refine at_thn ?_
          refine at_reg [] [0, 1, 5] (L2 := [(0, .slice A104 p103.length c105), (1, .slice A108 p107.length c109), (5, .int .i64 (IntKind.i64.wrap (x112 + 1)))]) (obs := []) (by kernel_rfl) ?_ ?_
          · intro w hs; exact trivial
          refine at_thn ?_
          refine at_keep [0, 1, 5] (L2 := [(0, .slice A104 p103.length c105), (1, .slice A108 p107.length c109), (5, .int .i64 (IntKind.i64.wrap (x112 + 1)))]) rfl ?_
          exact ih114 _ (by omega) _ _ _ ⟨IntKind.i64.wrap (x112 + 1), rfl, rfl, H, hle, by omega, hr106, hr110⟩
        · rw [if_neg h137] at H
          refine at_cond_t rfl (not_tt (ff_of h137)) ?_
          refine at_seq ?_
          refine at_reg [] [4] (L2 := [(4, .bool false)]) (obs := []) (by kernel_rfl) ?_ ?_
          · intro w hs; exact trivial
          refine at_thn ?_
          refine at_ret ?_
          refine at_in_ret ?_
          refine at_then_ret ?_
          refine at_then_ret ?_
          refine at_in_ret ?_
          refine at_then_ret ?_
          obtain rfl := Option.some.inj H
          refine at_done (vs := [.bool false]) (obs := []) (.inl rfl) [.tmp 4] [] rfl (by kernel_rfl) (fun w hs => trivial) (fun w hs => ⟨_, _, [], rfl, ⟨rfl, rfl⟩, hle, hs⟩)
      · rw [if_neg h116] at H
        refine at_cond_f rfl (decide_eq_false h116) ?_
        refine at_exit ?_
        refine at_then_exit ?_
        refine at_then_exit ?_
        refine at_in_hit ?_
        refine at_thn ?_
        refine at_seq ?_
        refine at_reg [] [4] (L2 := [(4, .bool true)]) (obs := []) (by kernel_rfl) ?_ ?_
        · intro w hs; exact trivial
        refine at_thn ?_
        refine at_ret ?_
        obtain rfl := Option.some.inj H
        refine at_done (vs := [.bool true]) (obs := []) (.inl rfl) [.tmp 4] [] rfl (by kernel_rfl) (fun w hs => trivial) (fun w hs => ⟨_, _, [], rfl, ⟨rfl, rfl⟩, hle, hs⟩)
  · rw [if_neg h111] at H
    refine at_cond_t rfl (bne_iff_ne.2 h111) ?_
    refine at_seq ?_
    refine at_reg [] [4] (L2 := [(4, .bool false)]) (obs := []) (by kernel_rfl) ?_ ?_
    · intro w hs; exact trivial
    refine at_thn ?_
    refine at_ret ?_
    refine at_then_ret ?_
    obtain rfl := Option.some.inj H
    refine at_done (vs := [.bool false]) (obs := []) (.inl rfl) [.tmp 4] [] rfl (by kernel_rfl) (fun w hs => trivial) (fun w hs => ⟨_, _, [], rfl, ⟨rfl, rfl⟩, hle, hs⟩)

/-! ### loop.example/g00146/laws.eqRing: function 11 -/
def laws_eqRing (k : Nat) (p93 : T_impl_Ring) (p97 : T_impl_Ring) : Option Bool := (laws_eqInt64SS k p93.Items p97.Items).bind fun b8 => (if b8 = true then (if p93.At = p97.At then (some true) else (some false)) else (some false))
set_option maxHeartbeats 4000000 in
set_option maxRecDepth 100000 in
theorem laws_eqRing.calls {k : Nat} {p93 : T_impl_Ring} {p97 : T_impl_Ring} {r : Bool} {I0 : Imm} {A94 : Option Addr} {c95 : Nat} {A98 : Option Addr} {c99 : Nat} (H : laws_eqRing k p93 p97 = some r) (hr96 : Rd (Kd.slice (Kd.int .i64)) I0 A94 c95 p93.Items) (hr100 : Rd (Kd.slice (Kd.int .i64)) I0 A98 c99 p97.Items) :
    Meets Try.prog 11 ([.agg #[.slice A94 p93.Items.length c95, .int .i64 p93.At], .agg #[.slice A98 p97.Items.length c99, .int .i64 p97.At]] : List Value).toArray I0 [] (fun v J M => v = .bool r ∧ M = []) := by
  have hle := ImmLe.refl I0
  unfold laws_eqRing at H
  refine fn_intro (fn := Try.f11) 16 Try.func11 rfl rfl rfl (fun E Fs => ?_)
  refine at_seq ?_
  refine at_ops [0, 1, 2] rfl ?_
  refine at_eff rfl rfl ?_
  refine eff_box rfl rfl rfl #[.slice A94 p93.Items.length c95, .int .i64 p93.At] rfl (fun g101 => ?_)
  refine at_eff rfl rfl ?_
  refine eff_box rfl rfl rfl #[.slice A98 p97.Items.length c99, .int .i64 p97.At] rfl (fun g102 => ?_)
  refine at_seg [2] [] rfl [] [2, 3] (L2 := [(2, .pointer (some ⟨g101, 0, none⟩)), (3, .pointer (some ⟨g102, 0, none⟩))]) (obs := []) (by kernel_rfl) ?_ ?_
  · intro w hs; exact trivial
  refine at_end ?_
  refine at_thn ?_
  refine at_seq ?_
  refine at_seq ?_
  refine at_ops [0, 1, 2, 3, 4, 5] rfl ?_
  refine at_seg [0, 1, 2, 3] [4, 5] rfl [(1, .slice A94 p93.Items.length c95), (3, .slice A98 p97.Items.length c99)] [2, 3, 6, 8] (L2 := [(2, .pointer (some ⟨g101, 0, none⟩)), (3, .pointer (some ⟨g102, 0, none⟩)), (6, .slice A94 p93.Items.length c95), (8, .slice A98 p97.Items.length c99)]) (obs := [fun w => w.cell? ⟨g101, 0, none⟩ = some (.slice A94 p93.Items.length c95), fun w => w.cell? ⟨g102, 0, none⟩ = some (.slice A98 p97.Items.length c99)]) (by kernel_rfl) ?_ ?_
  · intro w hs; exact ⟨hs.var (k := 1) rfl 0 rfl, hs.var (k := 0) rfl 0 rfl⟩
  refine at_eff rfl rfl ?_
  obtain ⟨b8, H103, H⟩ := bind_some H
  have hm_ := laws_eqInt64SS.calls (I0 := I0) H103 hr96 hr100
  refine eff_call rfl rfl ok36 rfl rfl (show Meets Try.prog 36 ([.slice A94 p93.Items.length c95, .slice A98 p97.Items.length c99] : List Value).toArray _ [] _ from hm_) (Mr := ([(g102, .cells #[.slice A98 p97.Items.length c99, .int .i64 p97.At] 27 (0, 0))] :: [(g101, .cells #[.slice A94 p93.Items.length c95, .int .i64 p93.At] 27 (0, 0))] :: Fs)) (List.Perm.refl _) (fun v104 J105 M106 hq107 hJ108 => ?_)
  replace hle := hle.trans hJ108
  replace hr100 := hr100.mono hJ108
  replace hr96 := hr96.mono hJ108
  obtain ⟨rfl, rfl⟩ := hq107
  refine at_seg [5] [] rfl [] [2, 3, 10] (L2 := [(2, .pointer (some ⟨g101, 0, none⟩)), (3, .pointer (some ⟨g102, 0, none⟩)), (10, .bool (!b8))]) (obs := []) (by kernel_rfl) ?_ ?_
  · intro w hs; exact trivial
  refine at_end ?_
  refine at_thn ?_
  by_cases h109 : b8 = true
  · rw [if_pos h109] at H
    refine at_cond_f rfl (not_ff (h109)) ?_
    refine at_skip ?_
    refine at_thn ?_
    refine at_seq ?_
    refine at_seq ?_
    refine at_reg [(1, .int .i64 p93.At), (3, .int .i64 p97.At)] [15] (L2 := [(15, .bool (p93.At != p97.At))]) (obs := [fun w => w.cell? ⟨g101, 1, none⟩ = some (.int .i64 p93.At), fun w => w.cell? ⟨g102, 1, none⟩ = some (.int .i64 p97.At)]) (by kernel_rfl) ?_ ?_
    · intro w hs; exact ⟨hs.var (k := 1) rfl 1 rfl, hs.var (k := 0) rfl 1 rfl⟩
    refine at_thn ?_
    by_cases h110 : p93.At = p97.At
    · rw [if_pos h110] at H
      refine at_cond_f rfl (bne_eq_false_iff_eq.2 h110) ?_
      refine at_skip ?_
      refine at_thn ?_
      refine at_seq ?_
      refine at_reg [] [4] (L2 := [(4, .bool true)]) (obs := []) (by kernel_rfl) ?_ ?_
      · intro w hs; exact trivial
      refine at_thn ?_
      refine at_ret ?_
      obtain rfl := Option.some.inj H
      refine at_drop (k := 0) rfl rfl ?_
      refine at_drop (k := 0) rfl rfl ?_
      refine at_done (vs := [.bool true]) (obs := []) (.inl rfl) [.tmp 4] [] rfl (by kernel_rfl) (fun w hs => trivial) (fun w hs => ⟨_, _, [], rfl, ⟨rfl, rfl⟩, hle, hs⟩)
    · rw [if_neg h110] at H
      refine at_cond_t rfl (bne_iff_ne.2 h110) ?_
      refine at_seq ?_
      refine at_reg [] [4] (L2 := [(4, .bool false)]) (obs := []) (by kernel_rfl) ?_ ?_
      · intro w hs; exact trivial
      refine at_thn ?_
      refine at_ret ?_
      refine at_then_ret ?_
      obtain rfl := Option.some.inj H
      refine at_drop (k := 0) rfl rfl ?_
      refine at_drop (k := 0) rfl rfl ?_
      refine at_done (vs := [.bool false]) (obs := []) (.inl rfl) [.tmp 4] [] rfl (by kernel_rfl) (fun w hs => trivial) (fun w hs => ⟨_, _, [], rfl, ⟨rfl, rfl⟩, hle, hs⟩)
  · rw [if_neg h109] at H
    refine at_cond_t rfl (not_tt (ff_of h109)) ?_
    refine at_seq ?_
    refine at_reg [] [4] (L2 := [(4, .bool false)]) (obs := []) (by kernel_rfl) ?_ ?_
    · intro w hs; exact trivial
    refine at_thn ?_
    refine at_ret ?_
    refine at_then_ret ?_
    obtain rfl := Option.some.inj H
    refine at_drop (k := 0) rfl rfl ?_
    refine at_drop (k := 0) rfl rfl ?_
    refine at_done (vs := [.bool false]) (obs := []) (.inl rfl) [.tmp 4] [] rfl (by kernel_rfl) (fun w hs => trivial) (fun w hs => ⟨_, _, [], rfl, ⟨rfl, rfl⟩, hle, hs⟩)

/-! ### loop.example/g00146/laws.markInt64S: function 14 -/
def laws_markInt64S_l0 : Nat → (List Int) → Int → Int → (List Int) → Option (Int × (List Int))
  | 0, _, _, _, _ => none
  | k + 1, x167, x172, x173, p161 => if x173 < (x167.length : Int) then (if 0 ≤ x173 then (laws_markInt64S_l0 k (x167.set x173.toNat x172) (IntKind.i64.wrap (x172 + 1)) (IntKind.i64.wrap (x173 + 1)) p161) else none) else (if x167.length = p161.length then (some (x172, x167)) else none)
def laws_markInt64S (k : Nat) (p161 : List Int) (p166 : Int) : Option (Int × (List Int)) := laws_markInt64S_l0 k p161 p166 0 p161
set_option maxHeartbeats 4000000 in
set_option maxRecDepth 100000 in
theorem laws_markInt64S.calls {k : Nat} {p161 : List Int} {p166 : Int} {r : Int × (List Int)} {I0 : Imm} {A162 : Option Addr} {c163 : Nat} {s164 : Seg} (H : laws_markInt64S k p161 p166 = some r) (ho165 : Own (Kd.int .i64) 2 I0 A162 c163 p161 s164) :
    Meets Try.prog 14 ([.slice A162 p161.length c163, .int .i64 p166] : List Value).toArray I0 [s164] (fun v J M => ∃ (s_1 : Seg), v = .int .i64 r.1 ∧ M = [s_1] ∧ Own (Kd.int .i64) 2 J A162 c163 r.2 s_1 ∧ r.2.length = p161.length) := by
  have hle := ImmLe.refl I0
  unfold laws_markInt64S at H
  refine fn_intro (fn := Try.f14) 19 Try.func14 rfl rfl rfl (fun E Fs => ?_)
  refine at_seq ?_
  refine at_reg [] [0, 1] (L2 := [(0, .slice A162 p161.length c163), (1, .int .i64 p166)]) (obs := []) (by kernel_rfl) ?_ ?_
  · intro w hs; exact trivial
  refine at_thn ?_
  refine at_seq ?_
  refine at_seq ?_
  refine at_reg [] [0, 1, 5] (L2 := [(0, .slice A162 p161.length c163), (1, .int .i64 p166), (5, .int .i64 0)]) (obs := []) (by kernel_rfl) ?_ ?_
  · intro w hs; exact trivial
  refine at_thn ?_
  refine at_block ?_
  refine at_keep [0, 1, 5] (L2 := [(0, .slice A162 p161.length c163), (1, .int .i64 p166), (5, .int .i64 0)]) rfl ?_
  refine at_loop (fun k174 L I Ms => ∃ (x167 : List Int) (s170 : Seg) (x172 : Int) (x173 : Int), L = [(0, .slice A162 x167.length c163), (1, .int .i64 x172), (5, .int .i64 x173)] ∧ Ms = (s170 :: Fs) ∧ laws_markInt64S_l0 k174 x167 x172 x173 p161 = some r ∧ ImmLe I0 I ∧ k174 ≤ k ∧ Own (Kd.int .i64) 2 I A162 c163 x167 s170) ?_ ?_ k ⟨p161, s164, p166, 0, rfl, rfl, H, hle, Nat.le_refl _, ho165⟩
  · rintro L I Ms ⟨_, _, _, _, rfl, rfl, H, _⟩; exact no_none H
  · clear H hle ho165
    intro k174 ih175 L I Ms h_; obtain ⟨x167, s170, x172, x173, hL_, hM_, H, hle, hk176, ho171⟩ := h_; rw [hL_, hM_]; clear hL_ hM_ L Ms
    rw [laws_markInt64S_l0] at H
    refine at_seq ?_
    refine at_seq ?_
    refine at_reg [] [0, 1, 5, 9] (L2 := [(0, .slice A162 x167.length c163), (1, .int .i64 x172), (5, .int .i64 x173), (9, .bool (decide (x173 < (x167.length : Int))))]) (obs := []) (by kernel_rfl) ?_ ?_
    · intro w hs; exact trivial
    refine at_thn ?_
    by_cases h177 : x173 < (x167.length : Int)
    · rw [if_pos h177] at H
      refine at_cond_t rfl (decide_eq_true h177) ?_
      refine at_skip ?_
      refine at_thn ?_
      refine at_seq ?_
      refine at_block ?_
      refine at_seq ?_
      refine at_ops [0, 1, 2, 3, 4] rfl ?_
      obtain ⟨h178, H⟩ := ite_some H
      refine at_seg [0, 1, 2, 3] [4] rfl [] [0, 1, 5, 14, 15] (L2 := [(0, .slice A162 x167.length c163), (1, .int .i64 x172), (5, .int .i64 x173), (14, .int .i64 x172), (15, .pointer (some ((A162.getD ad0).add (x173.toNat * 1))))]) (obs := [fun _ => A162.isSome = true ∧ 0 ≤ x173 ∧ x173 < ((x167.length : Nat) : Int)]) (by kernel_rfl) ?_ ?_
      · intro w hs; exact ⟨ho171.ne x173 h178 h177, h178, h177⟩
      refine at_eff rfl rfl ?_
      refine eff_storeOwn (K := (Kd.int .i64)) (u := x172) 0 0 0 x173 rfl rfl rfl rfl ho171 rfl h178 h177 (add0 _).symm rfl (Nat.le_of_ble_eq_true (by kernel_rfl)) rfl (by rintro cs_ rfl; rfl) (fun s179 ho180 => ?_)
      refine at_eqL2 (L1 := [(0, .slice A162 x167.length c163), (1, .int .i64 x172), (5, .int .i64 x173), (14, .int .i64 x172), (15, .pointer (some ((A162.getD ad0).add (x173.toNat * 1))))]) (L2 := [(0, .slice A162 (x167.set x173.toNat x172).length c163), (1, .int .i64 x172), (5, .int .i64 x173), (14, .int .i64 x172), (15, .pointer (some ((A162.getD ad0).add (x173.toNat * 1))))]) rfl (by simp only [List.length_set]) ?_
      refine at_end ?_
      refine at_thn ?_
      refine at_reg [] [0, 1, 5] (L2 := [(0, .slice A162 (x167.set x173.toNat x172).length c163), (1, .int .i64 (IntKind.i64.wrap (x172 + 1))), (5, .int .i64 x173)]) (obs := []) (by kernel_rfl) ?_ ?_
      · intro w hs; exact trivial
      refine at_in_norm ?_
      refine at_thn ?_
      refine at_reg [] [0, 1, 5] (L2 := [(0, .slice A162 (x167.set x173.toNat x172).length c163), (1, .int .i64 (IntKind.i64.wrap (x172 + 1))), (5, .int .i64 (IntKind.i64.wrap (x173 + 1)))]) (obs := []) (by kernel_rfl) ?_ ?_
      · intro w hs; exact trivial
      refine at_thn ?_
      refine at_keep [0, 1, 5] (L2 := [(0, .slice A162 (x167.set x173.toNat x172).length c163), (1, .int .i64 (IntKind.i64.wrap (x172 + 1))), (5, .int .i64 (IntKind.i64.wrap (x173 + 1)))]) rfl ?_
      exact ih175 _ (by omega) _ _ _ ⟨x167.set x173.toNat x172, s179, IntKind.i64.wrap (x172 + 1), IntKind.i64.wrap (x173 + 1), rfl, rfl, H, hle, by omega, ho180⟩
    · rw [if_neg h177] at H
      refine at_cond_f rfl (decide_eq_false h177) ?_
      refine at_exit ?_
      refine at_then_exit ?_
      refine at_then_exit ?_
      refine at_in_hit ?_
      refine at_thn ?_
      refine at_seq ?_
      refine at_reg [] [0, 4] (L2 := [(0, .slice A162 x167.length c163), (4, .int .i64 x172)]) (obs := []) (by kernel_rfl) ?_ ?_
      · intro w hs; exact trivial
      refine at_thn ?_
      refine at_ret ?_
      obtain ⟨h181, H⟩ := ite_some H
      obtain rfl := Option.some.inj H
      refine at_done (vs := [.int .i64 x172]) (obs := []) (.inl rfl) [.tmp 4] [] rfl (by kernel_rfl) (fun w hs => trivial) (fun w hs => ⟨_, _, [s170], rfl, ⟨s170, rfl, rfl, ho171, h181⟩, hle, hs⟩)

/-! ### loop.example/g00146/laws.markInt64SS: function 37 -/
def laws_markInt64SS_l0 : Nat → (List (List Int)) → Int → Int → (List (List Int)) → Option (Int × (List (List Int)))
  | 0, _, _, _, _ => none
  | k + 1, x154, x159, x160, p148 => if x160 < (x154.length : Int) then (if 0 ≤ x160 then ((laws_markInt64S k (rdA [] x154 x160) x159).bind fun b13 => (laws_markInt64SS_l0 k (x154.set x160.toNat b13.2) b13.1 (IntKind.i64.wrap (x160 + 1)) p148)) else none) else (if x154.length = p148.length then (some (x159, x154)) else none)
def laws_markInt64SS (k : Nat) (p148 : List (List Int)) (p153 : Int) : Option (Int × (List (List Int))) := laws_markInt64SS_l0 k p148 p153 0 p148
set_option maxHeartbeats 4000000 in
set_option maxRecDepth 100000 in
theorem laws_markInt64SS.calls {k : Nat} {p148 : List (List Int)} {p153 : Int} {r : Int × (List (List Int))} {I0 : Imm} {A149 : Option Addr} {c150 : Nat} {s151 : Seg} (H : laws_markInt64SS k p148 p153 = some r) (ho152 : DOwn (DK.sl (Kd.int .i64) 2) 25 I0 A149 c150 p148 s151) :
    Meets Try.prog 37 ([.slice A149 p148.length c150, .int .i64 p153] : List Value).toArray I0 [s151] (fun v J M => ∃ (s_1 : Seg), v = .int .i64 r.1 ∧ M = [s_1] ∧ DOwn (DK.sl (Kd.int .i64) 2) 25 J A149 c150 r.2 s_1 ∧ r.2.length = p148.length) := by
  have hle := ImmLe.refl I0
  unfold laws_markInt64SS at H
  refine fn_intro (fn := Try.f37) 19 Try.func37 rfl rfl rfl (fun E Fs => ?_)
  refine at_seq ?_
  refine at_reg [] [0, 1] (L2 := [(0, .slice A149 p148.length c150), (1, .int .i64 p153)]) (obs := []) (by kernel_rfl) ?_ ?_
  · intro w hs; exact trivial
  refine at_thn ?_
  refine at_seq ?_
  refine at_seq ?_
  refine at_reg [] [0, 1, 5] (L2 := [(0, .slice A149 p148.length c150), (1, .int .i64 p153), (5, .int .i64 0)]) (obs := []) (by kernel_rfl) ?_ ?_
  · intro w hs; exact trivial
  refine at_thn ?_
  refine at_block ?_
  refine at_keep [0, 1, 5] (L2 := [(0, .slice A149 p148.length c150), (1, .int .i64 p153), (5, .int .i64 0)]) rfl ?_
  refine at_loop (fun k161 L I Ms => ∃ (x154 : List (List Int)) (s157 : Seg) (x159 : Int) (x160 : Int), L = [(0, .slice A149 x154.length c150), (1, .int .i64 x159), (5, .int .i64 x160)] ∧ Ms = (s157 :: Fs) ∧ laws_markInt64SS_l0 k161 x154 x159 x160 p148 = some r ∧ ImmLe I0 I ∧ k161 ≤ k ∧ DOwn (DK.sl (Kd.int .i64) 2) 25 I A149 c150 x154 s157) ?_ ?_ k ⟨p148, s151, p153, 0, rfl, rfl, H, hle, Nat.le_refl _, ho152⟩
  · rintro L I Ms ⟨_, _, _, _, rfl, rfl, H, _⟩; exact no_none H
  · clear H hle ho152
    intro k161 ih162 L I Ms h_; obtain ⟨x154, s157, x159, x160, hL_, hM_, H, hle, hk163, ho158⟩ := h_; rw [hL_, hM_]; clear hL_ hM_ L Ms
    rw [laws_markInt64SS_l0] at H
    refine at_seq ?_
    refine at_seq ?_
    refine at_reg [] [0, 1, 5, 9] (L2 := [(0, .slice A149 x154.length c150), (1, .int .i64 x159), (5, .int .i64 x160), (9, .bool (decide (x160 < (x154.length : Int))))]) (obs := []) (by kernel_rfl) ?_ ?_
    · intro w hs; exact trivial
    refine at_thn ?_
    by_cases h164 : x160 < (x154.length : Int)
    · rw [if_pos h164] at H
      refine at_cond_t rfl (decide_eq_true h164) ?_
      refine at_skip ?_
      refine at_thn ?_
      refine at_seq ?_
      refine at_block ?_
      refine at_ops [0, 1, 2, 3, 4, 5, 6] rfl ?_
      obtain ⟨h165, H⟩ := ite_some H
      obtain ⟨A166, c167, hd168⟩ := ho158.at [] x160 h165 h164
      have hc169 := hd168.cells
      have hi170 : OwnIn (Kd.int .i64) 2 I A166 c167 (rdA [] x154 x160) s157 := hd168.inn
      refine at_seg [0, 1, 2, 3, 4] [5, 6] rfl [(3, .slice A166 (rdA [] x154 x160).length c167)] [0, 1, 5, 15, 16] (L2 := [(0, .slice A149 x154.length c150), (1, .int .i64 x159), (5, .int .i64 x160), (15, .slice A166 (rdA [] x154 x160).length c167), (16, .int .i64 x159)]) (obs := [fun _ => A149.isSome = true ∧ 0 ≤ x160 ∧ x160 < ((x154.length : Nat) : Int), fun w => w.cell? ((A149.getD ad0).add (x160.toNat * 1)) = some (.slice A166 (rdA [] x154 x160).length c167)]) (by kernel_rfl) ?_ ?_
      · intro w hs; exact ⟨⟨ho158.ne x160 h165 h164, h165, h164⟩, cell0 (hc169 0 _ rfl hs (k := 0) rfl)⟩
      refine at_eff rfl rfl ?_
      refine at_focus (D := (DK.sl (Kd.int .i64) 2)) 0 hd168 rfl (fun s171 s173 ho172 hh174 => ?_)
      replace ho172 : Own (Kd.int .i64) 2 I A166 c167 (rdA [] x154 x160) s171 := ho172
      obtain ⟨b13, H175, H⟩ := bind_some H
      have hm_ := laws_markInt64S.calls (I0 := I) H175 ho172
      refine eff_call rfl rfl ok14 rfl rfl (show Meets Try.prog 14 ([.slice A166 (rdA [] x154 x160).length c167, .int .i64 x159] : List Value).toArray _ [s171] _ from hm_) (Mr := (s173 :: Fs)) (List.Perm.refl _) (fun v176 J177 M178 hq179 hJ180 => ?_)
      replace hle := hle.trans hJ180
      replace hd168 := hd168.mono hJ180
      replace hi170 := hi170.mono hJ180
      replace ho158 := ho158.mono hJ180
      replace hh174 := hh174.mono hJ180
      obtain ⟨s181, rfl, rfl, ho182, hl183⟩ := hq179
      have hd184 := hh174.close (y := b13.2) ((show ([.slice A166 b13.2.length c167] : List Value) = [.slice A166 (rdA [] x154 x160).length c167] from by rw [hl183])) ho182
      refine at_merge 0 0 rfl rfl rfl ?_
      have he185 : rdA [] (x154.set x160.toNat b13.2) x160 = b13.2 := rdA_set _ _ h165 h164
      have hd186 : DOwn (DK.sl (Kd.int .i64) 2) 25 J177 A149 c150 (x154.set x160.toNat b13.2) (s181 ++ s173) := hd184.own
      have hi187 : OwnIn (Kd.int .i64) 2 J177 A166 c167 b13.2 (s181 ++ s173) := by have h_ := hd184.inn; rw [he185] at h_; exact h_
      refine at_keep [0, 1, 5, 15, 16, 17] (L2 := [(0, .slice A149 x154.length c150), (1, .int .i64 x159), (5, .int .i64 x160), (15, .slice A166 (rdA [] x154 x160).length c167), (16, .int .i64 x159), (17, .int .i64 b13.1)]) rfl ?_
      refine at_eqL2 (L1 := [(0, .slice A149 x154.length c150), (1, .int .i64 x159), (5, .int .i64 x160), (15, .slice A166 (rdA [] x154 x160).length c167), (16, .int .i64 x159), (17, .int .i64 b13.1)]) (L2 := [(0, .slice A149 (x154.set x160.toNat b13.2).length c150), (1, .int .i64 x159), (5, .int .i64 x160), (15, .slice A166 b13.2.length c167), (16, .int .i64 x159), (17, .int .i64 b13.1)]) rfl (by simp only [List.length_set, hl183]) ?_
      have h188 : x160 < ((x154.set x160.toNat b13.2).length : Int) := by simp only [List.length_set]; exact h164
      refine at_seg [6] [] rfl [] [0, 1, 5] (L2 := [(0, .slice A149 (x154.set x160.toNat b13.2).length c150), (1, .int .i64 b13.1), (5, .int .i64 x160)]) (obs := []) (by kernel_rfl) ?_ ?_
      · intro w hs; exact trivial
      refine at_end ?_
      refine at_in_norm ?_
      refine at_thn ?_
      refine at_reg [] [0, 1, 5] (L2 := [(0, .slice A149 (x154.set x160.toNat b13.2).length c150), (1, .int .i64 b13.1), (5, .int .i64 (IntKind.i64.wrap (x160 + 1)))]) (obs := []) (by kernel_rfl) ?_ ?_
      · intro w hs; exact trivial
      refine at_thn ?_
      refine at_keep [0, 1, 5] (L2 := [(0, .slice A149 (x154.set x160.toNat b13.2).length c150), (1, .int .i64 b13.1), (5, .int .i64 (IntKind.i64.wrap (x160 + 1)))]) rfl ?_
      exact ih162 _ (by omega) _ _ _ ⟨x154.set x160.toNat b13.2, (s181 ++ s173), b13.1, IntKind.i64.wrap (x160 + 1), rfl, rfl, H, hle, by omega, hd186⟩
    · rw [if_neg h164] at H
      refine at_cond_f rfl (decide_eq_false h164) ?_
      refine at_exit ?_
      refine at_then_exit ?_
      refine at_then_exit ?_
      refine at_in_hit ?_
      refine at_thn ?_
      refine at_seq ?_
      refine at_reg [] [0, 4] (L2 := [(0, .slice A149 x154.length c150), (4, .int .i64 x159)]) (obs := []) (by kernel_rfl) ?_ ?_
      · intro w hs; exact trivial
      refine at_thn ?_
      refine at_ret ?_
      obtain ⟨h189, H⟩ := ite_some H
      obtain rfl := Option.some.inj H
      refine at_done (vs := [.int .i64 x159]) (obs := []) (.inl rfl) [.tmp 4] [] rfl (by kernel_rfl) (fun w hs => trivial) (fun w hs => ⟨_, _, [s157], rfl, ⟨s157, rfl, rfl, ho158, h189⟩, hle, hs⟩)

/-! ### loop.example/g00146/laws.markRing: function 13 -/
def laws_markRing (k : Nat) (p142 : T_impl_Ring) (p147 : Int) : Option (Int × (List (List Int))) := (laws_markInt64SS k p142.Items p147).bind fun b13 => (if b13.2.length = p142.Items.length then (some (b13.1, b13.2)) else none)
set_option maxHeartbeats 4000000 in
set_option maxRecDepth 100000 in
theorem laws_markRing.calls {k : Nat} {p142 : T_impl_Ring} {p147 : Int} {r : Int × (List (List Int))} {I0 : Imm} {A143 : Option Addr} {c144 : Nat} {s145 : Seg} (H : laws_markRing k p142 p147 = some r) (ho146 : DOwn (DK.sl (Kd.int .i64) 2) 25 I0 A143 c144 p142.Items s145) :
    Meets Try.prog 13 ([.agg #[.slice A143 p142.Items.length c144, .int .i64 p142.At], .int .i64 p147] : List Value).toArray I0 [s145] (fun v J M => ∃ (s_1 : Seg), v = .int .i64 r.1 ∧ M = [s_1] ∧ DOwn (DK.sl (Kd.int .i64) 2) 25 J A143 c144 r.2 s_1 ∧ r.2.length = p142.Items.length) := by
  have hle := ImmLe.refl I0
  unfold laws_markRing at H
  refine fn_intro (fn := Try.f13) 10 Try.func13 rfl rfl rfl (fun E Fs => ?_)
  refine at_seq ?_
  refine at_ops [0, 1] rfl ?_
  refine at_eff rfl rfl ?_
  refine eff_box rfl rfl rfl #[.slice A143 p142.Items.length c144, .int .i64 p142.At] rfl (fun g148 => ?_)
  refine at_seg [1] [] rfl [] [0, 1, 2] (L2 := [(0, .agg #[.slice A143 p142.Items.length c144, .int .i64 p142.At]), (1, .int .i64 p147), (2, .pointer (some ⟨g148, 0, none⟩))]) (obs := []) (by kernel_rfl) ?_ ?_
  · intro w hs; exact trivial
  refine at_end ?_
  refine at_thn ?_
  refine at_seq ?_
  refine at_ops [0, 1, 2, 3, 4] rfl ?_
  refine at_seg [0, 1, 2] [3, 4] rfl [(1, .slice A143 p142.Items.length c144)] [0, 1, 6, 7] (L2 := [(0, .agg #[.slice A143 p142.Items.length c144, .int .i64 p142.At]), (1, .int .i64 p147), (6, .slice A143 p142.Items.length c144), (7, .int .i64 p147)]) (obs := [fun w => w.cell? ⟨g148, 0, none⟩ = some (.slice A143 p142.Items.length c144)]) (by kernel_rfl) ?_ ?_
  · intro w hs; exact hs.var (k := 0) rfl 0 rfl
  refine at_eff rfl rfl ?_
  obtain ⟨b13, H149, H⟩ := bind_some H
  have hm_ := laws_markInt64SS.calls (I0 := I0) H149 ho146
  refine eff_call rfl rfl ok37 rfl rfl (show Meets Try.prog 37 ([.slice A143 p142.Items.length c144, .int .i64 p147] : List Value).toArray _ [s145] _ from hm_) (Mr := ([(g148, .cells #[.slice A143 p142.Items.length c144, .int .i64 p142.At] 27 (0, 0))] :: Fs)) ((perm_at (k := 1) rfl).trans ((List.Perm.refl _).cons _)) (fun v150 J151 M152 hq153 hJ154 => ?_)
  replace hle := hle.trans hJ154
  replace ho146 := ho146.mono hJ154
  obtain ⟨s155, rfl, rfl, ho156, hl157⟩ := hq153
  refine at_keep [0, 1, 6, 7, 8] (L2 := [(0, .agg #[.slice A143 p142.Items.length c144, .int .i64 p142.At]), (1, .int .i64 p147), (6, .slice A143 p142.Items.length c144), (7, .int .i64 p147), (8, .int .i64 b13.1)]) rfl ?_
  refine at_eqL2 (L1 := [(0, .agg #[.slice A143 p142.Items.length c144, .int .i64 p142.At]), (1, .int .i64 p147), (6, .slice A143 p142.Items.length c144), (7, .int .i64 p147), (8, .int .i64 b13.1)]) (L2 := [(0, .agg #[.slice A143 b13.2.length c144, .int .i64 p142.At]), (1, .int .i64 p147), (6, .slice A143 b13.2.length c144), (7, .int .i64 p147), (8, .int .i64 b13.1)]) rfl (by rw [hl157]) ?_
  refine at_eqM (M1 := (s155 :: [(g148, .cells #[.slice A143 p142.Items.length c144, .int .i64 p142.At] 27 (0, 0))] :: Fs)) (M2 := (s155 :: [(g148, .cells #[.slice A143 b13.2.length c144, .int .i64 p142.At] 27 (0, 0))] :: Fs)) rfl (by rw [hl157]) ?_
  refine at_seg [4] [] rfl [] [0, 1] (L2 := [(0, .agg #[.slice A143 b13.2.length c144, .int .i64 p142.At]), (1, .int .i64 b13.1)]) (obs := []) (by kernel_rfl) ?_ ?_
  · intro w hs; exact trivial
  refine at_end ?_
  refine at_thn ?_
  refine at_seq ?_
  refine at_reg [] [0, 4] (L2 := [(0, .agg #[.slice A143 b13.2.length c144, .int .i64 p142.At]), (4, .int .i64 b13.1)]) (obs := []) (by kernel_rfl) ?_ ?_
  · intro w hs; exact trivial
  refine at_thn ?_
  refine at_ret ?_
  obtain ⟨h158, H⟩ := ite_some H
  obtain rfl := Option.some.inj H
  refine at_drop (k := 1) rfl rfl ?_
  refine at_done (vs := [.int .i64 b13.1]) (obs := []) (.inl rfl) [.tmp 4] [] rfl (by kernel_rfl) (fun w hs => trivial) (fun w hs => ⟨_, _, [s155], rfl, ⟨s155, rfl, rfl, ho156, h158⟩, hle, hs⟩)
end Go.Proofs.Ytabdhegmepaeiaa
