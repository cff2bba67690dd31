import Derived.Test.YtabdhegmepaeiaaG2
namespace Go.Proofs.Ytabdhegmepaeiaa
open Go Eng
set_option linter.unusedVariables false
set_option linter.unusedSimpArgs false
/-! ### loop.example/g00146/spec.RingPush: function 7 -/
mutual
def spec_RingPush_j2 : Nat → Bool → T_impl_Ring → (List Int) → Option T_impl_Ring
  | 0, _, _, _ => none
  | k + 1, x548, p38, p42 => if x548 = true then ((spec_l04Copy k p38).bind fun b6 => (some b6)) else (spec_RingPush_j0 k p38 p42)
def spec_RingPush_j0 : Nat → T_impl_Ring → (List Int) → Option T_impl_Ring
  | 0, _, _ => none
  | k + 1, p38, p42 => (spec_l01Copy p42).bind fun b4 => ((spec_l04CopyAll k p38.Items).bind fun b5 => (if ([b4] : List (List Int)).length + b5.length ≤ 5864062014805 then (if ((([b4] : List (List Int)) ++ b5).length : Int) > 10 then (if 10 ≤ ((([b4] : List (List Int)) ++ b5).length : Int) then (some (⟨(([b4] : List (List Int)) ++ b5).take 10, 0⟩ : T_impl_Ring)) else none) else (some (⟨(([b4] : List (List Int)) ++ b5), 0⟩ : T_impl_Ring))) else none))
end
def spec_RingPush (k : Nat) (p38 : T_impl_Ring) (p42 : List Int) : Option T_impl_Ring := if (p42.length : Int) > 400 then (some (⟨([] : List (List Int)), 0⟩ : T_impl_Ring)) else ((spec_RingRight k p38).bind fun b7 => (if b7 = true then ((spec_PointsRight k p42).bind fun b8 => (if b8 = true then (spec_RingPush_j2 k ((p42.length : Int) == 0) p38 p42) else (spec_RingPush_j2 k true p38 p42))) else (spec_RingPush_j2 k true p38 p42)))
set_option maxHeartbeats 4000000 in
set_option maxRecDepth 100000 in
theorem spec_RingPush.calls {k : Nat} {p38 : T_impl_Ring} {p42 : List Int} {r : T_impl_Ring} {I0 : Imm} {A39 : Option Addr} {c40 : Nat} {A43 : Option Addr} {c44 : Nat} (H : spec_RingPush k p38 p42 = some r) (hr41 : Rd (Kd.slice (Kd.int .i64)) I0 A39 c40 p38.Items) (hr45 : Rd (Kd.int .i64) I0 A43 c44 p42) :
    Meets Try.prog 7 ([.agg #[.slice A39 p38.Items.length c40, .int .i64 p38.At], .slice A43 p42.length c44] : List Value).toArray I0 [] (fun v J M => ∃ (A_1 : Option Addr) (c_2 : Nat) (s_3 : Seg), v = .agg #[.slice A_1 r.Items.length c_2, .int .i64 r.At] ∧ M = [s_3] ∧ DOwn (DK.sl (Kd.int .i64) 2) 25 J A_1 c_2 r.Items s_3) := by
  have hle := ImmLe.refl I0
  unfold spec_RingPush at H
  refine fn_intro (fn := Try.f7) 42 Try.func7 rfl rfl rfl (fun E Fs => ?_)
  refine at_seq ?_
  refine at_ops [0, 1] rfl ?_
  refine at_eff rfl rfl ?_
  refine eff_box rfl rfl rfl #[.slice A39 p38.Items.length c40, .int .i64 p38.At] rfl (fun g46 => ?_)
  refine at_eff rfl rfl ?_
  obtain ⟨i_, hi_, hz_, _, _⟩ := info27
  refine eff_alloc rfl rfl hi_ hz_ #[.slice none ([] : List (List Int)).length 0, .int .i64 0] rfl (fun g47 => ?_)
  refine at_end ?_
  refine at_thn ?_
  refine at_seq ?_
  refine at_seq ?_
  refine at_reg [] [1, 2, 4, 8] (L2 := [(1, .slice A43 p42.length c44), (2, .pointer (some ⟨g46, 0, none⟩)), (4, .pointer (some ⟨g47, 0, none⟩)), (8, .bool (decide ((p42.length : Int) > 400)))]) (obs := []) (by kernel_rfl) ?_ ?_
  · intro w hs; exact trivial
  refine at_thn ?_
  by_cases h48 : (p42.length : Int) > 400
  · rw [if_pos h48] at H
    refine at_cond_t rfl (decide_eq_true h48) ?_
    refine at_seq ?_
    refine at_ops [0, 1] rfl ?_
    refine at_seg [0] [1] rfl [] [4, 9] (L2 := [(4, .pointer (some ⟨g47, 0, none⟩)), (9, .agg #[.slice none ([] : List (List Int)).length 0, .int .i64 0])]) (obs := []) (by kernel_rfl) ?_ ?_
    · intro w hs; exact trivial
    refine at_eff rfl rfl ?_
    refine eff_store 0 rfl rfl rfl rfl rfl rfl (.inl (Nat.le_refl _)) rfl (Nat.le_of_ble_eq_true (by kernel_rfl)) rfl ?_
    refine at_end ?_
    refine at_thn ?_
    refine at_ret ?_
    refine at_then_ret ?_
    refine at_nilseg ?_
    have hd49 := DOwn.nil (DK.sl (Kd.int .i64) 2) 25 I0
    obtain rfl := Option.some.inj H
    refine at_drop (k := 2) rfl rfl ?_
    refine at_done (vs := [.agg #[.slice none ([] : List (List Int)).length 0, .int .i64 0]]) (obs := [fun w => CellsAt w ⟨g47, 0, none⟩ [.slice none ([] : List (List Int)).length 0, .int .i64 0] 0]) (.inl rfl) [.cell 4 27] [(4, .agg #[.slice none ([] : List (List Int)).length 0, .int .i64 0])] rfl (by kernel_rfl) (fun w hs => cellsV (k := 1) hs rfl _ 0 (Nat.le_of_ble_eq_true (by kernel_rfl)) rfl) (fun w hs => ⟨_, _, [[]], rfl, ⟨none, 0, [], rfl, rfl, hd49⟩, hle, (hs.tail (perm_at (k := 1) rfl))⟩)
  · rw [if_neg h48] at H
    refine at_cond_f rfl (decide_eq_false h48) ?_
    refine at_skip ?_
    refine at_thn ?_
    refine at_join (fun L I Ms => ∃ (k151 : Nat), L = [(1, .slice A43 p42.length c44), (2, .pointer (some ⟨g46, 0, none⟩)), (4, .pointer (some ⟨g47, 0, none⟩))] ∧ Ms = ([(g46, .cells #[.slice A39 p38.Items.length c40, .int .i64 p38.At] 27 (0, 0))] :: [(g47, .cells #[.slice none ([] : List (List Int)).length 0, .int .i64 0] 27 (0, 0))] :: Fs) ∧ spec_RingPush_j0 k151 p38 p42 = some r ∧ ImmLe I0 I ∧ k151 ≤ k ∧ Rd (Kd.slice (Kd.int .i64)) I A39 c40 p38.Items ∧ Rd (Kd.int .i64) I A43 c44 p42) ?_ ?_
    · clear H hle hr41 hr45
      intro L I Ms h_; obtain ⟨k151, hL_, hM_, H, hle, hk152, hr41, hr45⟩ := h_; rw [hL_, hM_]; clear hL_ hM_ L Ms
      rcases k151 with _ | k151
      · exact (no_none H).elim
      rw [spec_RingPush_j0] at H
      refine at_seq ?_
      refine at_x hmo (fun w => w.cell? ⟨g46, 0, none⟩ = some (.slice A39 p38.Items.length c40)) [6, 9] ?_
      refine at_xseg [0, 3, 4] 7 (#[true, false, false, true, true, false, false, false, false, false]) rfl (by kernel_rfl) [(4, .slice A39 p38.Items.length c40)] [4, 25, 29] (L2 := [(4, .pointer (some ⟨g47, 0, none⟩)), (25, .slice A43 p42.length c44), (29, .slice A39 p38.Items.length c40)]) (obs := [fun w => w.cell? ⟨g46, 0, none⟩ = some (.slice A39 p38.Items.length c40)]) (by kernel_rfl) (by kernel_rfl) (by kernel_rfl) (.inr fun w hs => hs.var (k := 0) rfl 0 rfl) (fun w hS => hS) (fun w hs => hs.var (k := 0) rfl 0 rfl) ?_
      refine at_xall (fuel := 6) [1, 8] (by kernel_rfl) (by simp) (List.forall_mem_cons.2 ⟨?_, (List.forall_mem_cons.2 ⟨?_, fun _ h => nomatch h⟩)⟩)
      · refine at_xone (#[true, true, false, true, true, false, false, false, false, false]) (by kernel_rfl) rfl rfl ?_
        obtain ⟨b4, H255, H⟩ := bind_some H
        have hm_ := spec_l01Copy.calls (I0 := I) H255 hr45
        refine eff_call rfl rfl ok29 rfl rfl (show Meets Try.prog 29 ([.slice A43 p42.length c44] : List Value).toArray _ [] _ from hm_) (Mr := ([(g46, .cells #[.slice A39 p38.Items.length c40, .int .i64 p38.At] 27 (0, 0))] :: [(g47, .cells #[.slice none ([] : List (List Int)).length 0, .int .i64 0] 27 (0, 0))] :: Fs)) (List.Perm.refl _) (fun v256 J257 M258 hq259 hJ260 => ?_)
        replace hle := hle.trans hJ260
        replace hr41 := hr41.mono hJ260
        replace hr45 := hr45.mono hJ260
        obtain ⟨A261, c262, s263, rfl, rfl, ho264⟩ := hq259
        refine at_xS (fun w hs => hs.var (k := 1) rfl 0 rfl) ?_
        refine at_xall (fuel := 5) [2, 5, 8] (by kernel_rfl) (by simp) (List.forall_mem_cons.2 ⟨?_, (List.forall_mem_cons.2 ⟨?_, (List.forall_mem_cons.2 ⟨?_, fun _ h => nomatch h⟩)⟩)⟩)
        · refine at_xone (#[true, true, true, true, true, false, false, false, false, false]) (by kernel_rfl) rfl rfl ?_
          refine eff_buildSlice (e := 25) (cells := #[.slice A261 b4.length c262]) ([b4] : List (List Int)).length rfl rfl rfl (by kernel_rfl) (fun g265 => ?_)
          have hd266 := own_lit (K := Kd.raw 1) (e := 25) (I := J257) (xs := ([[.slice A261 b4.length c262]] : List (List Value))) (css := ([[.slice A261 b4.length c262]] : List (List Value))) (cells := #[.slice A261 b4.length c262]) (b := g265) ⟨⟨rfl, rfl, rfl⟩, trivial⟩ rfl
          refine at_merge 1 0 rfl rfl rfl ?_
          replace hd266 : DOwn (DK.sl (Kd.int .i64) 2) 25 J257 (some ⟨g265, 0, none⟩ : Option Addr) (([b4] : List (List Int)).length) ([b4] : List (List Int)) (s263 ++ [(g265, .cells #[.slice A261 b4.length c262] 25 (0, 0))]) := DOwn.lit (hs := [[.slice A261 b4.length c262]]) (sis := [s263]) hd266 ⟨⟨_, _, rfl, ho264⟩, trivial⟩ (perm_lit1 _ _)
          refine at_xS (fun w hs => hs.var (k := 1) rfl 0 rfl) ?_
          refine at_xall (fuel := 4) [5, 8] (by kernel_rfl) (by simp) (List.forall_mem_cons.2 ⟨?_, (List.forall_mem_cons.2 ⟨?_, fun _ h => nomatch h⟩)⟩)
          · refine at_xone (#[true, true, true, true, true, true, false, false, false, false]) (by kernel_rfl) rfl rfl ?_
            obtain ⟨b5, H267, H⟩ := bind_some H
            have hm_ := spec_l04CopyAll.calls (I0 := J257) H267 hr41
            refine eff_call rfl rfl ok30 rfl rfl (show Meets Try.prog 30 ([.slice A39 p38.Items.length c40] : List Value).toArray _ [] _ from hm_) (Mr := ((s263 ++ [(g265, .cells #[.slice A261 b4.length c262] 25 (0, 0))]) :: [(g46, .cells #[.slice A39 p38.Items.length c40, .int .i64 p38.At] 27 (0, 0))] :: [(g47, .cells #[.slice none ([] : List (List Int)).length 0, .int .i64 0] 27 (0, 0))] :: Fs)) (List.Perm.refl _) (fun v268 J269 M270 hq271 hJ272 => ?_)
            replace hle := hle.trans hJ272
            replace hd266 := hd266.mono hJ272
            replace hr41 := hr41.mono hJ272
            replace hr45 := hr45.mono hJ272
            obtain ⟨A273, c274, s275, rfl, rfl, ho276⟩ := hq271
            refine at_xS (fun w hs => hs.var (k := 2) rfl 0 rfl) ?_
            refine at_xall (fuel := 3) [6, 8] (by kernel_rfl) (by simp) (List.forall_mem_cons.2 ⟨?_, (List.forall_mem_cons.2 ⟨?_, fun _ h => nomatch h⟩)⟩)
            · refine at_xone (#[true, true, true, true, true, true, true, false, false, false]) (by kernel_rfl) rfl rfl ?_
              obtain ⟨h277, H⟩ := ite_some H
              obtain ⟨i_, hi_, hz_, hs_, hb_⟩ := info25
              refine eff_appendD (D := (DK.sl (Kd.int .i64) 2)) (xs := ([b4] : List (List Int))) (ys := b5) 0 0 rfl rfl rfl rfl rfl und22 und22 hi_ hz_ hs_ rfl rfl rfl hd266 ho276 rfl rfl (by rw [hb_]; omega) (by omega) (fun A278 c279 s280 hd281 => ?_)
              refine at_xX (by kernel_rfl) ?_
              refine at_xseg [7] 2 (#[true, true, true, true, true, true, true, true, false, false]) rfl (by kernel_rfl) [] [4, 32] (L2 := [(4, .pointer (some ⟨g47, 0, none⟩)), (32, .agg #[.slice A278 (([b4] : List (List Int)) ++ b5).length c279, .int .i64 0])]) (obs := []) (by kernel_rfl) (by kernel_rfl) (by kernel_rfl) (.inl (by kernel_rfl)) (fun w hS => trivial) (fun w hs => trivial) ?_
              refine at_x1 1 8 (#[true, true, true, true, true, true, true, true, true, false]) rfl (by kernel_rfl) (by kernel_rfl) rfl rfl ?_
              obtain ⟨i_, hi_, hz_, _, _⟩ := info27
              refine eff_alloc rfl rfl hi_ hz_ #[.slice none ([] : List (List Int)).length 0, .int .i64 0] rfl (fun g282 => ?_)
              refine at_xX (by kernel_rfl) ?_
              refine at_x1 0 9 (#[true, true, true, true, true, true, true, true, true, true]) rfl (by kernel_rfl) (by kernel_rfl) rfl rfl ?_
              refine eff_store 0 rfl rfl rfl rfl rfl rfl (.inl (Nat.le_refl _)) rfl (Nat.le_of_ble_eq_true (by kernel_rfl)) rfl ?_
              refine at_xX (by kernel_rfl) ?_
              refine at_xend (by kernel_rfl) ?_
              refine at_thn ?_
              refine at_seq ?_
              refine at_seq ?_
              refine at_reg [(1, .slice A278 (([b4] : List (List Int)) ++ b5).length c279)] [4, 5, 36] (L2 := [(4, .pointer (some ⟨g47, 0, none⟩)), (5, .pointer (some ⟨g282, 0, none⟩)), (36, .bool (decide (((([b4] : List (List Int)) ++ b5).length : Int) > 10)))]) (obs := [fun w => w.cell? ⟨g282, 0, none⟩ = some (.slice A278 (([b4] : List (List Int)) ++ b5).length c279)]) (by kernel_rfl) ?_ ?_
              · intro w hs; exact hs.var (k := 0) rfl 0 rfl
              refine at_thn ?_
              by_cases h283 : ((([b4] : List (List Int)) ++ b5).length : Int) > 10
              · rw [if_pos h283] at H
                refine at_cond_t rfl (decide_eq_true h283) ?_
                refine at_ops [0, 1, 2, 3, 4] rfl ?_
                obtain ⟨h284, H⟩ := ite_some H
                have ho285 := hd281.take 10 (nat_le (by decide) h284)
                refine at_seg [0, 1, 2, 3] [4] rfl [(1, .slice A278 (([b4] : List (List Int)) ++ b5).length c279), (2, .slice A278 ((([b4] : List (List Int)) ++ b5).take 10).length c279)] [4, 5, 39, 40] (L2 := [(4, .pointer (some ⟨g47, 0, none⟩)), (5, .pointer (some ⟨g282, 0, none⟩)), (39, .slice A278 ((([b4] : List (List Int)) ++ b5).take 10).length c279), (40, .pointer (some ⟨g282, 0, none⟩))]) (obs := [fun w => w.cell? ⟨g282, 0, none⟩ = some (.slice A278 (([b4] : List (List Int)) ++ b5).length c279), fun _ => 0 ≤ (0 : Int) ∧ (0 : Int) ≤ (10 : Int) ∧ (10 : Int) ≤ ((c279 : Nat) : Int), fun _ => cutV A278 c279 1 0 10 = .slice A278 ((([b4] : List (List Int)) ++ b5).take 10).length c279]) (by kernel_rfl) ?_ ?_
                · intro w hs; exact ⟨hs.var (k := 0) rfl 0 rfl, ⟨Int.le_refl _, (by decide), Int.le_trans h284 (Int.ofNat_le.2 hd281.cap)⟩, cut_downD hd281 (nat_le (by decide) h284)⟩
                refine at_eff rfl rfl ?_
                refine eff_store 0 rfl rfl rfl rfl rfl rfl (.inl (Nat.le_refl _)) rfl (Nat.le_of_ble_eq_true (by kernel_rfl)) rfl ?_
                refine at_end ?_
                refine at_thn ?_
                refine at_seq ?_
                refine at_ops [0, 1] rfl ?_
                refine at_seg [0] [1] rfl [(0, .agg #[.slice A278 ((([b4] : List (List Int)) ++ b5).take 10).length c279, .int .i64 0])] [4, 41] (L2 := [(4, .pointer (some ⟨g47, 0, none⟩)), (41, .agg #[.slice A278 ((([b4] : List (List Int)) ++ b5).take 10).length c279, .int .i64 0])]) (obs := [fun w => CellsAt w ⟨g282, 0, none⟩ [.slice A278 ((([b4] : List (List Int)) ++ b5).take 10).length c279, .int .i64 0] 0]) (by kernel_rfl) ?_ ?_
                · intro w hs; exact cellsV (k := 0) hs rfl _ 0 (Nat.le_of_ble_eq_true (by kernel_rfl)) rfl
                refine at_eff rfl rfl ?_
                refine eff_store 3 rfl rfl rfl rfl rfl rfl (.inl (Nat.le_refl _)) rfl (Nat.le_of_ble_eq_true (by kernel_rfl)) rfl ?_
                refine at_end ?_
                refine at_thn ?_
                refine at_ret ?_
                obtain rfl := Option.some.inj H
                refine at_drop (k := 0) rfl rfl ?_
                refine at_drop (k := 1) rfl rfl ?_
                refine at_done (vs := [.agg #[.slice A278 ((([b4] : List (List Int)) ++ b5).take 10).length c279, .int .i64 0]]) (obs := [fun w => CellsAt w ⟨g47, 0, none⟩ [.slice A278 ((([b4] : List (List Int)) ++ b5).take 10).length c279, .int .i64 0] 0]) (.inl rfl) [.cell 4 27] [(4, .agg #[.slice A278 ((([b4] : List (List Int)) ++ b5).take 10).length c279, .int .i64 0])] rfl (by kernel_rfl) (fun w hs => cellsV (k := 1) hs rfl _ 0 (Nat.le_of_ble_eq_true (by kernel_rfl)) rfl) (fun w hs => ⟨_, _, [s280], rfl, ⟨A278, c279, s280, rfl, rfl, ho285⟩, hle, (hs.tail (perm_at (k := 1) rfl))⟩)
              · rw [if_neg h283] at H
                refine at_cond_f rfl (decide_eq_false h283) ?_
                refine at_skip ?_
                refine at_thn ?_
                refine at_seq ?_
                refine at_ops [0, 1] rfl ?_
                refine at_seg [0] [1] rfl [(0, .agg #[.slice A278 (([b4] : List (List Int)) ++ b5).length c279, .int .i64 0])] [4, 41] (L2 := [(4, .pointer (some ⟨g47, 0, none⟩)), (41, .agg #[.slice A278 (([b4] : List (List Int)) ++ b5).length c279, .int .i64 0])]) (obs := [fun w => CellsAt w ⟨g282, 0, none⟩ [.slice A278 (([b4] : List (List Int)) ++ b5).length c279, .int .i64 0] 0]) (by kernel_rfl) ?_ ?_
                · intro w hs; exact cellsV (k := 0) hs rfl _ 0 (Nat.le_of_ble_eq_true (by kernel_rfl)) rfl
                refine at_eff rfl rfl ?_
                refine eff_store 3 rfl rfl rfl rfl rfl rfl (.inl (Nat.le_refl _)) rfl (Nat.le_of_ble_eq_true (by kernel_rfl)) rfl ?_
                refine at_end ?_
                refine at_thn ?_
                refine at_ret ?_
                obtain rfl := Option.some.inj H
                refine at_drop (k := 0) rfl rfl ?_
                refine at_drop (k := 1) rfl rfl ?_
                refine at_done (vs := [.agg #[.slice A278 (([b4] : List (List Int)) ++ b5).length c279, .int .i64 0]]) (obs := [fun w => CellsAt w ⟨g47, 0, none⟩ [.slice A278 (([b4] : List (List Int)) ++ b5).length c279, .int .i64 0] 0]) (.inl rfl) [.cell 4 27] [(4, .agg #[.slice A278 (([b4] : List (List Int)) ++ b5).length c279, .int .i64 0])] rfl (by kernel_rfl) (fun w hs => cellsV (k := 1) hs rfl _ 0 (Nat.le_of_ble_eq_true (by kernel_rfl)) rfl) (fun w hs => ⟨_, _, [s280], rfl, ⟨A278, c279, s280, rfl, rfl, hd281⟩, hle, (hs.tail (perm_at (k := 1) rfl))⟩)
            · refine at_xone (#[true, true, true, true, true, true, false, false, true, false]) (by kernel_rfl) rfl rfl ?_
              obtain ⟨i_, hi_, hz_, _, _⟩ := info27
              refine eff_alloc rfl rfl hi_ hz_ #[.slice none ([] : List (List Int)).length 0, .int .i64 0] rfl (fun g286 => ?_)
              refine at_xS (fun w hs => hs.var (k := 3) rfl 0 rfl) ?_
              refine at_x1 2 6 (#[true, true, true, true, true, true, true, false, true, false]) rfl (by kernel_rfl) (by kernel_rfl) rfl rfl ?_
              obtain ⟨h287, H⟩ := ite_some H
              obtain ⟨i_, hi_, hz_, hs_, hb_⟩ := info25
              refine eff_appendD (D := (DK.sl (Kd.int .i64) 2)) (xs := ([b4] : List (List Int))) (ys := b5) 1 1 rfl rfl rfl rfl rfl und22 und22 hi_ hz_ hs_ rfl rfl rfl hd266 ho276 rfl rfl (by rw [hb_]; omega) (by omega) (fun A288 c289 s290 hd291 => ?_)
              refine at_xX (by kernel_rfl) ?_
              refine at_xseg [7] 1 (#[true, true, true, true, true, true, true, true, true, false]) rfl (by kernel_rfl) [] [4, 5, 32] (L2 := [(4, .pointer (some ⟨g47, 0, none⟩)), (5, .pointer (some ⟨g286, 0, none⟩)), (32, .agg #[.slice A288 (([b4] : List (List Int)) ++ b5).length c289, .int .i64 0])]) (obs := []) (by kernel_rfl) (by kernel_rfl) (by kernel_rfl) (.inl (by kernel_rfl)) (fun w hS => trivial) (fun w hs => trivial) ?_
              refine at_x1 0 9 (#[true, true, true, true, true, true, true, true, true, true]) rfl (by kernel_rfl) (by kernel_rfl) rfl rfl ?_
              refine eff_store 0 rfl rfl rfl rfl rfl rfl (.inl (Nat.le_refl _)) rfl (Nat.le_of_ble_eq_true (by kernel_rfl)) rfl ?_
              refine at_xX (by kernel_rfl) ?_
              refine at_xend (by kernel_rfl) ?_
              refine at_thn ?_
              refine at_seq ?_
              refine at_seq ?_
              refine at_reg [(1, .slice A288 (([b4] : List (List Int)) ++ b5).length c289)] [4, 5, 36] (L2 := [(4, .pointer (some ⟨g47, 0, none⟩)), (5, .pointer (some ⟨g286, 0, none⟩)), (36, .bool (decide (((([b4] : List (List Int)) ++ b5).length : Int) > 10)))]) (obs := [fun w => w.cell? ⟨g286, 0, none⟩ = some (.slice A288 (([b4] : List (List Int)) ++ b5).length c289)]) (by kernel_rfl) ?_ ?_
              · intro w hs; exact hs.var (k := 0) rfl 0 rfl
              refine at_thn ?_
              by_cases h292 : ((([b4] : List (List Int)) ++ b5).length : Int) > 10
              · rw [if_pos h292] at H
                refine at_cond_t rfl (decide_eq_true h292) ?_
                refine at_ops [0, 1, 2, 3, 4] rfl ?_
                obtain ⟨h293, H⟩ := ite_some H
                have ho294 := hd291.take 10 (nat_le (by decide) h293)
                refine at_seg [0, 1, 2, 3] [4] rfl [(1, .slice A288 (([b4] : List (List Int)) ++ b5).length c289), (2, .slice A288 ((([b4] : List (List Int)) ++ b5).take 10).length c289)] [4, 5, 39, 40] (L2 := [(4, .pointer (some ⟨g47, 0, none⟩)), (5, .pointer (some ⟨g286, 0, none⟩)), (39, .slice A288 ((([b4] : List (List Int)) ++ b5).take 10).length c289), (40, .pointer (some ⟨g286, 0, none⟩))]) (obs := [fun w => w.cell? ⟨g286, 0, none⟩ = some (.slice A288 (([b4] : List (List Int)) ++ b5).length c289), fun _ => 0 ≤ (0 : Int) ∧ (0 : Int) ≤ (10 : Int) ∧ (10 : Int) ≤ ((c289 : Nat) : Int), fun _ => cutV A288 c289 1 0 10 = .slice A288 ((([b4] : List (List Int)) ++ b5).take 10).length c289]) (by kernel_rfl) ?_ ?_
                · intro w hs; exact ⟨hs.var (k := 0) rfl 0 rfl, ⟨Int.le_refl _, (by decide), Int.le_trans h293 (Int.ofNat_le.2 hd291.cap)⟩, cut_downD hd291 (nat_le (by decide) h293)⟩
                refine at_eff rfl rfl ?_
                refine eff_store 0 rfl rfl rfl rfl rfl rfl (.inl (Nat.le_refl _)) rfl (Nat.le_of_ble_eq_true (by kernel_rfl)) rfl ?_
                refine at_end ?_
                refine at_thn ?_
                refine at_seq ?_
                refine at_ops [0, 1] rfl ?_
                refine at_seg [0] [1] rfl [(0, .agg #[.slice A288 ((([b4] : List (List Int)) ++ b5).take 10).length c289, .int .i64 0])] [4, 41] (L2 := [(4, .pointer (some ⟨g47, 0, none⟩)), (41, .agg #[.slice A288 ((([b4] : List (List Int)) ++ b5).take 10).length c289, .int .i64 0])]) (obs := [fun w => CellsAt w ⟨g286, 0, none⟩ [.slice A288 ((([b4] : List (List Int)) ++ b5).take 10).length c289, .int .i64 0] 0]) (by kernel_rfl) ?_ ?_
                · intro w hs; exact cellsV (k := 0) hs rfl _ 0 (Nat.le_of_ble_eq_true (by kernel_rfl)) rfl
                refine at_eff rfl rfl ?_
                refine eff_store 3 rfl rfl rfl rfl rfl rfl (.inl (Nat.le_refl _)) rfl (Nat.le_of_ble_eq_true (by kernel_rfl)) rfl ?_
                refine at_end ?_
                refine at_thn ?_
                refine at_ret ?_
                obtain rfl := Option.some.inj H
                refine at_drop (k := 0) rfl rfl ?_
                refine at_drop (k := 1) rfl rfl ?_
                refine at_done (vs := [.agg #[.slice A288 ((([b4] : List (List Int)) ++ b5).take 10).length c289, .int .i64 0]]) (obs := [fun w => CellsAt w ⟨g47, 0, none⟩ [.slice A288 ((([b4] : List (List Int)) ++ b5).take 10).length c289, .int .i64 0] 0]) (.inl rfl) [.cell 4 27] [(4, .agg #[.slice A288 ((([b4] : List (List Int)) ++ b5).take 10).length c289, .int .i64 0])] rfl (by kernel_rfl) (fun w hs => cellsV (k := 1) hs rfl _ 0 (Nat.le_of_ble_eq_true (by kernel_rfl)) rfl) (fun w hs => ⟨_, _, [s290], rfl, ⟨A288, c289, s290, rfl, rfl, ho294⟩, hle, (hs.tail (perm_at (k := 1) rfl))⟩)
              · rw [if_neg h292] at H
                refine at_cond_f rfl (decide_eq_false h292) ?_
                refine at_skip ?_
                refine at_thn ?_
                refine at_seq ?_
                refine at_ops [0, 1] rfl ?_
                refine at_seg [0] [1] rfl [(0, .agg #[.slice A288 (([b4] : List (List Int)) ++ b5).length c289, .int .i64 0])] [4, 41] (L2 := [(4, .pointer (some ⟨g47, 0, none⟩)), (41, .agg #[.slice A288 (([b4] : List (List Int)) ++ b5).length c289, .int .i64 0])]) (obs := [fun w => CellsAt w ⟨g286, 0, none⟩ [.slice A288 (([b4] : List (List Int)) ++ b5).length c289, .int .i64 0] 0]) (by kernel_rfl) ?_ ?_
                · intro w hs; exact cellsV (k := 0) hs rfl _ 0 (Nat.le_of_ble_eq_true (by kernel_rfl)) rfl
                refine at_eff rfl rfl ?_
                refine eff_store 3 rfl rfl rfl rfl rfl rfl (.inl (Nat.le_refl _)) rfl (Nat.le_of_ble_eq_true (by kernel_rfl)) rfl ?_
                refine at_end ?_
                refine at_thn ?_
                refine at_ret ?_
                obtain rfl := Option.some.inj H
                refine at_drop (k := 0) rfl rfl ?_
                refine at_drop (k := 1) rfl rfl ?_
                refine at_done (vs := [.agg #[.slice A288 (([b4] : List (List Int)) ++ b5).length c289, .int .i64 0]]) (obs := [fun w => CellsAt w ⟨g47, 0, none⟩ [.slice A288 (([b4] : List (List Int)) ++ b5).length c289, .int .i64 0] 0]) (.inl rfl) [.cell 4 27] [(4, .agg #[.slice A288 (([b4] : List (List Int)) ++ b5).length c289, .int .i64 0])] rfl (by kernel_rfl) (fun w hs => cellsV (k := 1) hs rfl _ 0 (Nat.le_of_ble_eq_true (by kernel_rfl)) rfl) (fun w hs => ⟨_, _, [s290], rfl, ⟨A288, c289, s290, rfl, rfl, hd291⟩, hle, (hs.tail (perm_at (k := 1) rfl))⟩)
          · refine at_xone (#[true, true, true, true, true, false, false, false, true, false]) (by kernel_rfl) rfl rfl ?_
            obtain ⟨i_, hi_, hz_, _, _⟩ := info27
            refine eff_alloc rfl rfl hi_ hz_ #[.slice none ([] : List (List Int)).length 0, .int .i64 0] rfl (fun g295 => ?_)
            refine at_xS (fun w hs => hs.var (k := 2) rfl 0 rfl) ?_
            refine at_x1 3 5 (#[true, true, true, true, true, true, false, false, true, false]) rfl (by kernel_rfl) (by kernel_rfl) rfl rfl ?_
            obtain ⟨b5, H296, H⟩ := bind_some H
            have hm_ := spec_l04CopyAll.calls (I0 := J257) H296 hr41
            refine eff_call rfl rfl ok30 rfl rfl (show Meets Try.prog 30 ([.slice A39 p38.Items.length c40] : List Value).toArray _ [] _ from hm_) (Mr := ([(g295, .cells #[.slice none ([] : List (List Int)).length 0, .int .i64 0] 27 (0, 0))] :: (s263 ++ [(g265, .cells #[.slice A261 b4.length c262] 25 (0, 0))]) :: [(g46, .cells #[.slice A39 p38.Items.length c40, .int .i64 p38.At] 27 (0, 0))] :: [(g47, .cells #[.slice none ([] : List (List Int)).length 0, .int .i64 0] 27 (0, 0))] :: Fs)) (List.Perm.refl _) (fun v297 J298 M299 hq300 hJ301 => ?_)
            replace hle := hle.trans hJ301
            replace hd266 := hd266.mono hJ301
            replace hr41 := hr41.mono hJ301
            replace hr45 := hr45.mono hJ301
            obtain ⟨A302, c303, s304, rfl, rfl, ho305⟩ := hq300
            refine at_xS (fun w hs => hs.var (k := 3) rfl 0 rfl) ?_
            refine at_x1 2 6 (#[true, true, true, true, true, true, true, false, true, false]) rfl (by kernel_rfl) (by kernel_rfl) rfl rfl ?_
            obtain ⟨h306, H⟩ := ite_some H
            obtain ⟨i_, hi_, hz_, hs_, hb_⟩ := info25
            refine eff_appendD (D := (DK.sl (Kd.int .i64) 2)) (xs := ([b4] : List (List Int))) (ys := b5) 1 0 rfl rfl rfl rfl rfl und22 und22 hi_ hz_ hs_ rfl rfl rfl hd266 ho305 rfl rfl (by rw [hb_]; omega) (by omega) (fun A307 c308 s309 hd310 => ?_)
            refine at_xX (by kernel_rfl) ?_
            refine at_xseg [7] 1 (#[true, true, true, true, true, true, true, true, true, false]) rfl (by kernel_rfl) [] [4, 5, 32] (L2 := [(4, .pointer (some ⟨g47, 0, none⟩)), (5, .pointer (some ⟨g295, 0, none⟩)), (32, .agg #[.slice A307 (([b4] : List (List Int)) ++ b5).length c308, .int .i64 0])]) (obs := []) (by kernel_rfl) (by kernel_rfl) (by kernel_rfl) (.inl (by kernel_rfl)) (fun w hS => trivial) (fun w hs => trivial) ?_
            refine at_x1 0 9 (#[true, true, true, true, true, true, true, true, true, true]) rfl (by kernel_rfl) (by kernel_rfl) rfl rfl ?_
            refine eff_store 0 rfl rfl rfl rfl rfl rfl (.inl (Nat.le_refl _)) rfl (Nat.le_of_ble_eq_true (by kernel_rfl)) rfl ?_
            refine at_xX (by kernel_rfl) ?_
            refine at_xend (by kernel_rfl) ?_
            refine at_thn ?_
            refine at_seq ?_
            refine at_seq ?_
            refine at_reg [(1, .slice A307 (([b4] : List (List Int)) ++ b5).length c308)] [4, 5, 36] (L2 := [(4, .pointer (some ⟨g47, 0, none⟩)), (5, .pointer (some ⟨g295, 0, none⟩)), (36, .bool (decide (((([b4] : List (List Int)) ++ b5).length : Int) > 10)))]) (obs := [fun w => w.cell? ⟨g295, 0, none⟩ = some (.slice A307 (([b4] : List (List Int)) ++ b5).length c308)]) (by kernel_rfl) ?_ ?_
            · intro w hs; exact hs.var (k := 0) rfl 0 rfl
            refine at_thn ?_
            by_cases h311 : ((([b4] : List (List Int)) ++ b5).length : Int) > 10
            · rw [if_pos h311] at H
              refine at_cond_t rfl (decide_eq_true h311) ?_
              refine at_ops [0, 1, 2, 3, 4] rfl ?_
              obtain ⟨h312, H⟩ := ite_some H
              have ho313 := hd310.take 10 (nat_le (by decide) h312)
              refine at_seg [0, 1, 2, 3] [4] rfl [(1, .slice A307 (([b4] : List (List Int)) ++ b5).length c308), (2, .slice A307 ((([b4] : List (List Int)) ++ b5).take 10).length c308)] [4, 5, 39, 40] (L2 := [(4, .pointer (some ⟨g47, 0, none⟩)), (5, .pointer (some ⟨g295, 0, none⟩)), (39, .slice A307 ((([b4] : List (List Int)) ++ b5).take 10).length c308), (40, .pointer (some ⟨g295, 0, none⟩))]) (obs := [fun w => w.cell? ⟨g295, 0, none⟩ = some (.slice A307 (([b4] : List (List Int)) ++ b5).length c308), fun _ => 0 ≤ (0 : Int) ∧ (0 : Int) ≤ (10 : Int) ∧ (10 : Int) ≤ ((c308 : Nat) : Int), fun _ => cutV A307 c308 1 0 10 = .slice A307 ((([b4] : List (List Int)) ++ b5).take 10).length c308]) (by kernel_rfl) ?_ ?_
              · intro w hs; exact ⟨hs.var (k := 0) rfl 0 rfl, ⟨Int.le_refl _, (by decide), Int.le_trans h312 (Int.ofNat_le.2 hd310.cap)⟩, cut_downD hd310 (nat_le (by decide) h312)⟩
              refine at_eff rfl rfl ?_
              refine eff_store 0 rfl rfl rfl rfl rfl rfl (.inl (Nat.le_refl _)) rfl (Nat.le_of_ble_eq_true (by kernel_rfl)) rfl ?_
              refine at_end ?_
              refine at_thn ?_
              refine at_seq ?_
              refine at_ops [0, 1] rfl ?_
              refine at_seg [0] [1] rfl [(0, .agg #[.slice A307 ((([b4] : List (List Int)) ++ b5).take 10).length c308, .int .i64 0])] [4, 41] (L2 := [(4, .pointer (some ⟨g47, 0, none⟩)), (41, .agg #[.slice A307 ((([b4] : List (List Int)) ++ b5).take 10).length c308, .int .i64 0])]) (obs := [fun w => CellsAt w ⟨g295, 0, none⟩ [.slice A307 ((([b4] : List (List Int)) ++ b5).take 10).length c308, .int .i64 0] 0]) (by kernel_rfl) ?_ ?_
              · intro w hs; exact cellsV (k := 0) hs rfl _ 0 (Nat.le_of_ble_eq_true (by kernel_rfl)) rfl
              refine at_eff rfl rfl ?_
              refine eff_store 3 rfl rfl rfl rfl rfl rfl (.inl (Nat.le_refl _)) rfl (Nat.le_of_ble_eq_true (by kernel_rfl)) rfl ?_
              refine at_end ?_
              refine at_thn ?_
              refine at_ret ?_
              obtain rfl := Option.some.inj H
              refine at_drop (k := 0) rfl rfl ?_
              refine at_drop (k := 1) rfl rfl ?_
              refine at_done (vs := [.agg #[.slice A307 ((([b4] : List (List Int)) ++ b5).take 10).length c308, .int .i64 0]]) (obs := [fun w => CellsAt w ⟨g47, 0, none⟩ [.slice A307 ((([b4] : List (List Int)) ++ b5).take 10).length c308, .int .i64 0] 0]) (.inl rfl) [.cell 4 27] [(4, .agg #[.slice A307 ((([b4] : List (List Int)) ++ b5).take 10).length c308, .int .i64 0])] rfl (by kernel_rfl) (fun w hs => cellsV (k := 1) hs rfl _ 0 (Nat.le_of_ble_eq_true (by kernel_rfl)) rfl) (fun w hs => ⟨_, _, [s309], rfl, ⟨A307, c308, s309, rfl, rfl, ho313⟩, hle, (hs.tail (perm_at (k := 1) rfl))⟩)
            · rw [if_neg h311] at H
              refine at_cond_f rfl (decide_eq_false h311) ?_
              refine at_skip ?_
              refine at_thn ?_
              refine at_seq ?_
              refine at_ops [0, 1] rfl ?_
              refine at_seg [0] [1] rfl [(0, .agg #[.slice A307 (([b4] : List (List Int)) ++ b5).length c308, .int .i64 0])] [4, 41] (L2 := [(4, .pointer (some ⟨g47, 0, none⟩)), (41, .agg #[.slice A307 (([b4] : List (List Int)) ++ b5).length c308, .int .i64 0])]) (obs := [fun w => CellsAt w ⟨g295, 0, none⟩ [.slice A307 (([b4] : List (List Int)) ++ b5).length c308, .int .i64 0] 0]) (by kernel_rfl) ?_ ?_
              · intro w hs; exact cellsV (k := 0) hs rfl _ 0 (Nat.le_of_ble_eq_true (by kernel_rfl)) rfl
              refine at_eff rfl rfl ?_
              refine eff_store 3 rfl rfl rfl rfl rfl rfl (.inl (Nat.le_refl _)) rfl (Nat.le_of_ble_eq_true (by kernel_rfl)) rfl ?_
              refine at_end ?_
              refine at_thn ?_
              refine at_ret ?_
              obtain rfl := Option.some.inj H
              refine at_drop (k := 0) rfl rfl ?_
              refine at_drop (k := 1) rfl rfl ?_
              refine at_done (vs := [.agg #[.slice A307 (([b4] : List (List Int)) ++ b5).length c308, .int .i64 0]]) (obs := [fun w => CellsAt w ⟨g47, 0, none⟩ [.slice A307 (([b4] : List (List Int)) ++ b5).length c308, .int .i64 0] 0]) (.inl rfl) [.cell 4 27] [(4, .agg #[.slice A307 (([b4] : List (List Int)) ++ b5).length c308, .int .i64 0])] rfl (by kernel_rfl) (fun w hs => cellsV (k := 1) hs rfl _ 0 (Nat.le_of_ble_eq_true (by kernel_rfl)) rfl) (fun w hs => ⟨_, _, [s309], rfl, ⟨A307, c308, s309, rfl, rfl, hd310⟩, hle, (hs.tail (perm_at (k := 1) rfl))⟩)
        · refine at_xone (#[true, true, false, true, true, true, false, false, false, false]) (by kernel_rfl) rfl rfl ?_
          obtain ⟨b5, H314, H⟩ := bind_some H
          have hm_ := spec_l04CopyAll.calls (I0 := J257) H314 hr41
          refine eff_call rfl rfl ok30 rfl rfl (show Meets Try.prog 30 ([.slice A39 p38.Items.length c40] : List Value).toArray _ [] _ from hm_) (Mr := (s263 :: [(g46, .cells #[.slice A39 p38.Items.length c40, .int .i64 p38.At] 27 (0, 0))] :: [(g47, .cells #[.slice none ([] : List (List Int)).length 0, .int .i64 0] 27 (0, 0))] :: Fs)) (List.Perm.refl _) (fun v315 J316 M317 hq318 hJ319 => ?_)
          replace hle := hle.trans hJ319
          replace ho264 := ho264.mono hJ319
          replace hr41 := hr41.mono hJ319
          replace hr45 := hr45.mono hJ319
          obtain ⟨A320, c321, s322, rfl, rfl, ho323⟩ := hq318
          refine at_xS (fun w hs => hs.var (k := 2) rfl 0 rfl) ?_
          refine at_xall (fuel := 4) [2, 8] (by kernel_rfl) (by simp) (List.forall_mem_cons.2 ⟨?_, (List.forall_mem_cons.2 ⟨?_, fun _ h => nomatch h⟩)⟩)
          · refine at_xone (#[true, true, true, true, true, true, false, false, false, false]) (by kernel_rfl) rfl rfl ?_
            refine eff_buildSlice (e := 25) (cells := #[.slice A261 b4.length c262]) ([b4] : List (List Int)).length rfl rfl rfl (by kernel_rfl) (fun g324 => ?_)
            have hd325 := own_lit (K := Kd.raw 1) (e := 25) (I := J316) (xs := ([[.slice A261 b4.length c262]] : List (List Value))) (css := ([[.slice A261 b4.length c262]] : List (List Value))) (cells := #[.slice A261 b4.length c262]) (b := g324) ⟨⟨rfl, rfl, rfl⟩, trivial⟩ rfl
            refine at_merge 2 0 rfl rfl rfl ?_
            replace hd325 : DOwn (DK.sl (Kd.int .i64) 2) 25 J316 (some ⟨g324, 0, none⟩ : Option Addr) (([b4] : List (List Int)).length) ([b4] : List (List Int)) (s263 ++ [(g324, .cells #[.slice A261 b4.length c262] 25 (0, 0))]) := DOwn.lit (hs := [[.slice A261 b4.length c262]]) (sis := [s263]) hd325 ⟨⟨_, _, rfl, ho264⟩, trivial⟩ (perm_lit1 _ _)
            refine at_xS (fun w hs => hs.var (k := 2) rfl 0 rfl) ?_
            refine at_xall (fuel := 3) [6, 8] (by kernel_rfl) (by simp) (List.forall_mem_cons.2 ⟨?_, (List.forall_mem_cons.2 ⟨?_, fun _ h => nomatch h⟩)⟩)
            · refine at_xone (#[true, true, true, true, true, true, true, false, false, false]) (by kernel_rfl) rfl rfl ?_
              obtain ⟨h326, H⟩ := ite_some H
              obtain ⟨i_, hi_, hz_, hs_, hb_⟩ := info25
              refine eff_appendD (D := (DK.sl (Kd.int .i64) 2)) (xs := ([b4] : List (List Int))) (ys := b5) 0 1 rfl rfl rfl rfl rfl und22 und22 hi_ hz_ hs_ rfl rfl rfl hd325 ho323 rfl rfl (by rw [hb_]; omega) (by omega) (fun A327 c328 s329 hd330 => ?_)
              refine at_xX (by kernel_rfl) ?_
              refine at_xseg [7] 2 (#[true, true, true, true, true, true, true, true, false, false]) rfl (by kernel_rfl) [] [4, 32] (L2 := [(4, .pointer (some ⟨g47, 0, none⟩)), (32, .agg #[.slice A327 (([b4] : List (List Int)) ++ b5).length c328, .int .i64 0])]) (obs := []) (by kernel_rfl) (by kernel_rfl) (by kernel_rfl) (.inl (by kernel_rfl)) (fun w hS => trivial) (fun w hs => trivial) ?_
              refine at_x1 1 8 (#[true, true, true, true, true, true, true, true, true, false]) rfl (by kernel_rfl) (by kernel_rfl) rfl rfl ?_
              obtain ⟨i_, hi_, hz_, _, _⟩ := info27
              refine eff_alloc rfl rfl hi_ hz_ #[.slice none ([] : List (List Int)).length 0, .int .i64 0] rfl (fun g331 => ?_)
              refine at_xX (by kernel_rfl) ?_
              refine at_x1 0 9 (#[true, true, true, true, true, true, true, true, true, true]) rfl (by kernel_rfl) (by kernel_rfl) rfl rfl ?_
              refine eff_store 0 rfl rfl rfl rfl rfl rfl (.inl (Nat.le_refl _)) rfl (Nat.le_of_ble_eq_true (by kernel_rfl)) rfl ?_
              refine at_xX (by kernel_rfl) ?_
              refine at_xend (by kernel_rfl) ?_
              refine at_thn ?_
              refine at_seq ?_
              refine at_seq ?_
              refine at_reg [(1, .slice A327 (([b4] : List (List Int)) ++ b5).length c328)] [4, 5, 36] (L2 := [(4, .pointer (some ⟨g47, 0, none⟩)), (5, .pointer (some ⟨g331, 0, none⟩)), (36, .bool (decide (((([b4] : List (List Int)) ++ b5).length : Int) > 10)))]) (obs := [fun w => w.cell? ⟨g331, 0, none⟩ = some (.slice A327 (([b4] : List (List Int)) ++ b5).length c328)]) (by kernel_rfl) ?_ ?_
              · intro w hs; exact hs.var (k := 0) rfl 0 rfl
              refine at_thn ?_
              by_cases h332 : ((([b4] : List (List Int)) ++ b5).length : Int) > 10
              · rw [if_pos h332] at H
                refine at_cond_t rfl (decide_eq_true h332) ?_
                refine at_ops [0, 1, 2, 3, 4] rfl ?_
                obtain ⟨h333, H⟩ := ite_some H
                have ho334 := hd330.take 10 (nat_le (by decide) h333)
                refine at_seg [0, 1, 2, 3] [4] rfl [(1, .slice A327 (([b4] : List (List Int)) ++ b5).length c328), (2, .slice A327 ((([b4] : List (List Int)) ++ b5).take 10).length c328)] [4, 5, 39, 40] (L2 := [(4, .pointer (some ⟨g47, 0, none⟩)), (5, .pointer (some ⟨g331, 0, none⟩)), (39, .slice A327 ((([b4] : List (List Int)) ++ b5).take 10).length c328), (40, .pointer (some ⟨g331, 0, none⟩))]) (obs := [fun w => w.cell? ⟨g331, 0, none⟩ = some (.slice A327 (([b4] : List (List Int)) ++ b5).length c328), fun _ => 0 ≤ (0 : Int) ∧ (0 : Int) ≤ (10 : Int) ∧ (10 : Int) ≤ ((c328 : Nat) : Int), fun _ => cutV A327 c328 1 0 10 = .slice A327 ((([b4] : List (List Int)) ++ b5).take 10).length c328]) (by kernel_rfl) ?_ ?_
                · intro w hs; exact ⟨hs.var (k := 0) rfl 0 rfl, ⟨Int.le_refl _, (by decide), Int.le_trans h333 (Int.ofNat_le.2 hd330.cap)⟩, cut_downD hd330 (nat_le (by decide) h333)⟩
                refine at_eff rfl rfl ?_
                refine eff_store 0 rfl rfl rfl rfl rfl rfl (.inl (Nat.le_refl _)) rfl (Nat.le_of_ble_eq_true (by kernel_rfl)) rfl ?_
                refine at_end ?_
                refine at_thn ?_
                refine at_seq ?_
                refine at_ops [0, 1] rfl ?_
                refine at_seg [0] [1] rfl [(0, .agg #[.slice A327 ((([b4] : List (List Int)) ++ b5).take 10).length c328, .int .i64 0])] [4, 41] (L2 := [(4, .pointer (some ⟨g47, 0, none⟩)), (41, .agg #[.slice A327 ((([b4] : List (List Int)) ++ b5).take 10).length c328, .int .i64 0])]) (obs := [fun w => CellsAt w ⟨g331, 0, none⟩ [.slice A327 ((([b4] : List (List Int)) ++ b5).take 10).length c328, .int .i64 0] 0]) (by kernel_rfl) ?_ ?_
                · intro w hs; exact cellsV (k := 0) hs rfl _ 0 (Nat.le_of_ble_eq_true (by kernel_rfl)) rfl
                refine at_eff rfl rfl ?_
                refine eff_store 3 rfl rfl rfl rfl rfl rfl (.inl (Nat.le_refl _)) rfl (Nat.le_of_ble_eq_true (by kernel_rfl)) rfl ?_
                refine at_end ?_
                refine at_thn ?_
                refine at_ret ?_
                obtain rfl := Option.some.inj H
                refine at_drop (k := 0) rfl rfl ?_
                refine at_drop (k := 1) rfl rfl ?_
                refine at_done (vs := [.agg #[.slice A327 ((([b4] : List (List Int)) ++ b5).take 10).length c328, .int .i64 0]]) (obs := [fun w => CellsAt w ⟨g47, 0, none⟩ [.slice A327 ((([b4] : List (List Int)) ++ b5).take 10).length c328, .int .i64 0] 0]) (.inl rfl) [.cell 4 27] [(4, .agg #[.slice A327 ((([b4] : List (List Int)) ++ b5).take 10).length c328, .int .i64 0])] rfl (by kernel_rfl) (fun w hs => cellsV (k := 1) hs rfl _ 0 (Nat.le_of_ble_eq_true (by kernel_rfl)) rfl) (fun w hs => ⟨_, _, [s329], rfl, ⟨A327, c328, s329, rfl, rfl, ho334⟩, hle, (hs.tail (perm_at (k := 1) rfl))⟩)
              · rw [if_neg h332] at H
                refine at_cond_f rfl (decide_eq_false h332) ?_
                refine at_skip ?_
                refine at_thn ?_
                refine at_seq ?_
                refine at_ops [0, 1] rfl ?_
                refine at_seg [0] [1] rfl [(0, .agg #[.slice A327 (([b4] : List (List Int)) ++ b5).length c328, .int .i64 0])] [4, 41] (L2 := [(4, .pointer (some ⟨g47, 0, none⟩)), (41, .agg #[.slice A327 (([b4] : List (List Int)) ++ b5).length c328, .int .i64 0])]) (obs := [fun w => CellsAt w ⟨g331, 0, none⟩ [.slice A327 (([b4] : List (List Int)) ++ b5).length c328, .int .i64 0] 0]) (by kernel_rfl) ?_ ?_
                · intro w hs; exact cellsV (k := 0) hs rfl _ 0 (Nat.le_of_ble_eq_true (by kernel_rfl)) rfl
                refine at_eff rfl rfl ?_
                refine eff_store 3 rfl rfl rfl rfl rfl rfl (.inl (Nat.le_refl _)) rfl (Nat.le_of_ble_eq_true (by kernel_rfl)) rfl ?_
                refine at_end ?_
                refine at_thn ?_
                refine at_ret ?_
                obtain rfl := Option.some.inj H
                refine at_drop (k := 0) rfl rfl ?_
                refine at_drop (k := 1) rfl rfl ?_
                refine at_done (vs := [.agg #[.slice A327 (([b4] : List (List Int)) ++ b5).length c328, .int .i64 0]]) (obs := [fun w => CellsAt w ⟨g47, 0, none⟩ [.slice A327 (([b4] : List (List Int)) ++ b5).length c328, .int .i64 0] 0]) (.inl rfl) [.cell 4 27] [(4, .agg #[.slice A327 (([b4] : List (List Int)) ++ b5).length c328, .int .i64 0])] rfl (by kernel_rfl) (fun w hs => cellsV (k := 1) hs rfl _ 0 (Nat.le_of_ble_eq_true (by kernel_rfl)) rfl) (fun w hs => ⟨_, _, [s329], rfl, ⟨A327, c328, s329, rfl, rfl, hd330⟩, hle, (hs.tail (perm_at (k := 1) rfl))⟩)
            · refine at_xone (#[true, true, true, true, true, true, false, false, true, false]) (by kernel_rfl) rfl rfl ?_
              obtain ⟨i_, hi_, hz_, _, _⟩ := info27
              refine eff_alloc rfl rfl hi_ hz_ #[.slice none ([] : List (List Int)).length 0, .int .i64 0] rfl (fun g335 => ?_)
              refine at_xS (fun w hs => hs.var (k := 3) rfl 0 rfl) ?_
              refine at_x1 2 6 (#[true, true, true, true, true, true, true, false, true, false]) rfl (by kernel_rfl) (by kernel_rfl) rfl rfl ?_
              obtain ⟨h336, H⟩ := ite_some H
              obtain ⟨i_, hi_, hz_, hs_, hb_⟩ := info25
              refine eff_appendD (D := (DK.sl (Kd.int .i64) 2)) (xs := ([b4] : List (List Int))) (ys := b5) 1 2 rfl rfl rfl rfl rfl und22 und22 hi_ hz_ hs_ rfl rfl rfl hd325 ho323 rfl rfl (by rw [hb_]; omega) (by omega) (fun A337 c338 s339 hd340 => ?_)
              refine at_xX (by kernel_rfl) ?_
              refine at_xseg [7] 1 (#[true, true, true, true, true, true, true, true, true, false]) rfl (by kernel_rfl) [] [4, 5, 32] (L2 := [(4, .pointer (some ⟨g47, 0, none⟩)), (5, .pointer (some ⟨g335, 0, none⟩)), (32, .agg #[.slice A337 (([b4] : List (List Int)) ++ b5).length c338, .int .i64 0])]) (obs := []) (by kernel_rfl) (by kernel_rfl) (by kernel_rfl) (.inl (by kernel_rfl)) (fun w hS => trivial) (fun w hs => trivial) ?_
              refine at_x1 0 9 (#[true, true, true, true, true, true, true, true, true, true]) rfl (by kernel_rfl) (by kernel_rfl) rfl rfl ?_
              refine eff_store 0 rfl rfl rfl rfl rfl rfl (.inl (Nat.le_refl _)) rfl (Nat.le_of_ble_eq_true (by kernel_rfl)) rfl ?_
              refine at_xX (by kernel_rfl) ?_
              refine at_xend (by kernel_rfl) ?_
              refine at_thn ?_
              refine at_seq ?_
              refine at_seq ?_
              refine at_reg [(1, .slice A337 (([b4] : List (List Int)) ++ b5).length c338)] [4, 5, 36] (L2 := [(4, .pointer (some ⟨g47, 0, none⟩)), (5, .pointer (some ⟨g335, 0, none⟩)), (36, .bool (decide (((([b4] : List (List Int)) ++ b5).length : Int) > 10)))]) (obs := [fun w => w.cell? ⟨g335, 0, none⟩ = some (.slice A337 (([b4] : List (List Int)) ++ b5).length c338)]) (by kernel_rfl) ?_ ?_
              · intro w hs; exact hs.var (k := 0) rfl 0 rfl
              refine at_thn ?_
              by_cases h341 : ((([b4] : List (List Int)) ++ b5).length : Int) > 10
              · rw [if_pos h341] at H
                refine at_cond_t rfl (decide_eq_true h341) ?_
                refine at_ops [0, 1, 2, 3, 4] rfl ?_
                obtain ⟨h342, H⟩ := ite_some H
                have ho343 := hd340.take 10 (nat_le (by decide) h342)
                refine at_seg [0, 1, 2, 3] [4] rfl [(1, .slice A337 (([b4] : List (List Int)) ++ b5).length c338), (2, .slice A337 ((([b4] : List (List Int)) ++ b5).take 10).length c338)] [4, 5, 39, 40] (L2 := [(4, .pointer (some ⟨g47, 0, none⟩)), (5, .pointer (some ⟨g335, 0, none⟩)), (39, .slice A337 ((([b4] : List (List Int)) ++ b5).take 10).length c338), (40, .pointer (some ⟨g335, 0, none⟩))]) (obs := [fun w => w.cell? ⟨g335, 0, none⟩ = some (.slice A337 (([b4] : List (List Int)) ++ b5).length c338), fun _ => 0 ≤ (0 : Int) ∧ (0 : Int) ≤ (10 : Int) ∧ (10 : Int) ≤ ((c338 : Nat) : Int), fun _ => cutV A337 c338 1 0 10 = .slice A337 ((([b4] : List (List Int)) ++ b5).take 10).length c338]) (by kernel_rfl) ?_ ?_
                · intro w hs; exact ⟨hs.var (k := 0) rfl 0 rfl, ⟨Int.le_refl _, (by decide), Int.le_trans h342 (Int.ofNat_le.2 hd340.cap)⟩, cut_downD hd340 (nat_le (by decide) h342)⟩
                refine at_eff rfl rfl ?_
                refine eff_store 0 rfl rfl rfl rfl rfl rfl (.inl (Nat.le_refl _)) rfl (Nat.le_of_ble_eq_true (by kernel_rfl)) rfl ?_
                refine at_end ?_
                refine at_thn ?_
                refine at_seq ?_
                refine at_ops [0, 1] rfl ?_
                refine at_seg [0] [1] rfl [(0, .agg #[.slice A337 ((([b4] : List (List Int)) ++ b5).take 10).length c338, .int .i64 0])] [4, 41] (L2 := [(4, .pointer (some ⟨g47, 0, none⟩)), (41, .agg #[.slice A337 ((([b4] : List (List Int)) ++ b5).take 10).length c338, .int .i64 0])]) (obs := [fun w => CellsAt w ⟨g335, 0, none⟩ [.slice A337 ((([b4] : List (List Int)) ++ b5).take 10).length c338, .int .i64 0] 0]) (by kernel_rfl) ?_ ?_
                · intro w hs; exact cellsV (k := 0) hs rfl _ 0 (Nat.le_of_ble_eq_true (by kernel_rfl)) rfl
                refine at_eff rfl rfl ?_
                refine eff_store 3 rfl rfl rfl rfl rfl rfl (.inl (Nat.le_refl _)) rfl (Nat.le_of_ble_eq_true (by kernel_rfl)) rfl ?_
                refine at_end ?_
                refine at_thn ?_
                refine at_ret ?_
                obtain rfl := Option.some.inj H
                refine at_drop (k := 0) rfl rfl ?_
                refine at_drop (k := 1) rfl rfl ?_
                refine at_done (vs := [.agg #[.slice A337 ((([b4] : List (List Int)) ++ b5).take 10).length c338, .int .i64 0]]) (obs := [fun w => CellsAt w ⟨g47, 0, none⟩ [.slice A337 ((([b4] : List (List Int)) ++ b5).take 10).length c338, .int .i64 0] 0]) (.inl rfl) [.cell 4 27] [(4, .agg #[.slice A337 ((([b4] : List (List Int)) ++ b5).take 10).length c338, .int .i64 0])] rfl (by kernel_rfl) (fun w hs => cellsV (k := 1) hs rfl _ 0 (Nat.le_of_ble_eq_true (by kernel_rfl)) rfl) (fun w hs => ⟨_, _, [s339], rfl, ⟨A337, c338, s339, rfl, rfl, ho343⟩, hle, (hs.tail (perm_at (k := 1) rfl))⟩)
              · rw [if_neg h341] at H
                refine at_cond_f rfl (decide_eq_false h341) ?_
                refine at_skip ?_
                refine at_thn ?_
                refine at_seq ?_
                refine at_ops [0, 1] rfl ?_
                refine at_seg [0] [1] rfl [(0, .agg #[.slice A337 (([b4] : List (List Int)) ++ b5).length c338, .int .i64 0])] [4, 41] (L2 := [(4, .pointer (some ⟨g47, 0, none⟩)), (41, .agg #[.slice A337 (([b4] : List (List Int)) ++ b5).length c338, .int .i64 0])]) (obs := [fun w => CellsAt w ⟨g335, 0, none⟩ [.slice A337 (([b4] : List (List Int)) ++ b5).length c338, .int .i64 0] 0]) (by kernel_rfl) ?_ ?_
                · intro w hs; exact cellsV (k := 0) hs rfl _ 0 (Nat.le_of_ble_eq_true (by kernel_rfl)) rfl
                refine at_eff rfl rfl ?_
                refine eff_store 3 rfl rfl rfl rfl rfl rfl (.inl (Nat.le_refl _)) rfl (Nat.le_of_ble_eq_true (by kernel_rfl)) rfl ?_
                refine at_end ?_
                refine at_thn ?_
                refine at_ret ?_
                obtain rfl := Option.some.inj H
                refine at_drop (k := 0) rfl rfl ?_
                refine at_drop (k := 1) rfl rfl ?_
                refine at_done (vs := [.agg #[.slice A337 (([b4] : List (List Int)) ++ b5).length c338, .int .i64 0]]) (obs := [fun w => CellsAt w ⟨g47, 0, none⟩ [.slice A337 (([b4] : List (List Int)) ++ b5).length c338, .int .i64 0] 0]) (.inl rfl) [.cell 4 27] [(4, .agg #[.slice A337 (([b4] : List (List Int)) ++ b5).length c338, .int .i64 0])] rfl (by kernel_rfl) (fun w hs => cellsV (k := 1) hs rfl _ 0 (Nat.le_of_ble_eq_true (by kernel_rfl)) rfl) (fun w hs => ⟨_, _, [s339], rfl, ⟨A337, c338, s339, rfl, rfl, hd340⟩, hle, (hs.tail (perm_at (k := 1) rfl))⟩)
          · refine at_xone (#[true, true, false, true, true, true, false, false, true, false]) (by kernel_rfl) rfl rfl ?_
            obtain ⟨i_, hi_, hz_, _, _⟩ := info27
            refine eff_alloc rfl rfl hi_ hz_ #[.slice none ([] : List (List Int)).length 0, .int .i64 0] rfl (fun g344 => ?_)
            refine at_xS (fun w hs => hs.var (k := 3) rfl 0 rfl) ?_
            refine at_x1 3 2 (#[true, true, true, true, true, true, false, false, true, false]) rfl (by kernel_rfl) (by kernel_rfl) rfl rfl ?_
            refine eff_buildSlice (e := 25) (cells := #[.slice A261 b4.length c262]) ([b4] : List (List Int)).length rfl rfl rfl (by kernel_rfl) (fun g345 => ?_)
            have hd346 := own_lit (K := Kd.raw 1) (e := 25) (I := J316) (xs := ([[.slice A261 b4.length c262]] : List (List Value))) (css := ([[.slice A261 b4.length c262]] : List (List Value))) (cells := #[.slice A261 b4.length c262]) (b := g345) ⟨⟨rfl, rfl, rfl⟩, trivial⟩ rfl
            refine at_merge 3 0 rfl rfl rfl ?_
            replace hd346 : DOwn (DK.sl (Kd.int .i64) 2) 25 J316 (some ⟨g345, 0, none⟩ : Option Addr) (([b4] : List (List Int)).length) ([b4] : List (List Int)) (s263 ++ [(g345, .cells #[.slice A261 b4.length c262] 25 (0, 0))]) := DOwn.lit (hs := [[.slice A261 b4.length c262]]) (sis := [s263]) hd346 ⟨⟨_, _, rfl, ho264⟩, trivial⟩ (perm_lit1 _ _)
            refine at_xS (fun w hs => hs.var (k := 3) rfl 0 rfl) ?_
            refine at_x1 2 6 (#[true, true, true, true, true, true, true, false, true, false]) rfl (by kernel_rfl) (by kernel_rfl) rfl rfl ?_
            obtain ⟨h347, H⟩ := ite_some H
            obtain ⟨i_, hi_, hz_, hs_, hb_⟩ := info25
            refine eff_appendD (D := (DK.sl (Kd.int .i64) 2)) (xs := ([b4] : List (List Int))) (ys := b5) 0 2 rfl rfl rfl rfl rfl und22 und22 hi_ hz_ hs_ rfl rfl rfl hd346 ho323 rfl rfl (by rw [hb_]; omega) (by omega) (fun A348 c349 s350 hd351 => ?_)
            refine at_xX (by kernel_rfl) ?_
            refine at_xseg [7] 1 (#[true, true, true, true, true, true, true, true, true, false]) rfl (by kernel_rfl) [] [4, 5, 32] (L2 := [(4, .pointer (some ⟨g47, 0, none⟩)), (5, .pointer (some ⟨g344, 0, none⟩)), (32, .agg #[.slice A348 (([b4] : List (List Int)) ++ b5).length c349, .int .i64 0])]) (obs := []) (by kernel_rfl) (by kernel_rfl) (by kernel_rfl) (.inl (by kernel_rfl)) (fun w hS => trivial) (fun w hs => trivial) ?_
            refine at_x1 0 9 (#[true, true, true, true, true, true, true, true, true, true]) rfl (by kernel_rfl) (by kernel_rfl) rfl rfl ?_
            refine eff_store 1 rfl rfl rfl rfl rfl rfl (.inl (Nat.le_refl _)) rfl (Nat.le_of_ble_eq_true (by kernel_rfl)) rfl ?_
            refine at_xX (by kernel_rfl) ?_
            refine at_xend (by kernel_rfl) ?_
            refine at_thn ?_
            refine at_seq ?_
            refine at_seq ?_
            refine at_reg [(1, .slice A348 (([b4] : List (List Int)) ++ b5).length c349)] [4, 5, 36] (L2 := [(4, .pointer (some ⟨g47, 0, none⟩)), (5, .pointer (some ⟨g344, 0, none⟩)), (36, .bool (decide (((([b4] : List (List Int)) ++ b5).length : Int) > 10)))]) (obs := [fun w => w.cell? ⟨g344, 0, none⟩ = some (.slice A348 (([b4] : List (List Int)) ++ b5).length c349)]) (by kernel_rfl) ?_ ?_
            · intro w hs; exact hs.var (k := 1) rfl 0 rfl
            refine at_thn ?_
            by_cases h352 : ((([b4] : List (List Int)) ++ b5).length : Int) > 10
            · rw [if_pos h352] at H
              refine at_cond_t rfl (decide_eq_true h352) ?_
              refine at_ops [0, 1, 2, 3, 4] rfl ?_
              obtain ⟨h353, H⟩ := ite_some H
              have ho354 := hd351.take 10 (nat_le (by decide) h353)
              refine at_seg [0, 1, 2, 3] [4] rfl [(1, .slice A348 (([b4] : List (List Int)) ++ b5).length c349), (2, .slice A348 ((([b4] : List (List Int)) ++ b5).take 10).length c349)] [4, 5, 39, 40] (L2 := [(4, .pointer (some ⟨g47, 0, none⟩)), (5, .pointer (some ⟨g344, 0, none⟩)), (39, .slice A348 ((([b4] : List (List Int)) ++ b5).take 10).length c349), (40, .pointer (some ⟨g344, 0, none⟩))]) (obs := [fun w => w.cell? ⟨g344, 0, none⟩ = some (.slice A348 (([b4] : List (List Int)) ++ b5).length c349), fun _ => 0 ≤ (0 : Int) ∧ (0 : Int) ≤ (10 : Int) ∧ (10 : Int) ≤ ((c349 : Nat) : Int), fun _ => cutV A348 c349 1 0 10 = .slice A348 ((([b4] : List (List Int)) ++ b5).take 10).length c349]) (by kernel_rfl) ?_ ?_
              · intro w hs; exact ⟨hs.var (k := 1) rfl 0 rfl, ⟨Int.le_refl _, (by decide), Int.le_trans h353 (Int.ofNat_le.2 hd351.cap)⟩, cut_downD hd351 (nat_le (by decide) h353)⟩
              refine at_eff rfl rfl ?_
              refine eff_store 1 rfl rfl rfl rfl rfl rfl (.inl (Nat.le_refl _)) rfl (Nat.le_of_ble_eq_true (by kernel_rfl)) rfl ?_
              refine at_end ?_
              refine at_thn ?_
              refine at_seq ?_
              refine at_ops [0, 1] rfl ?_
              refine at_seg [0] [1] rfl [(0, .agg #[.slice A348 ((([b4] : List (List Int)) ++ b5).take 10).length c349, .int .i64 0])] [4, 41] (L2 := [(4, .pointer (some ⟨g47, 0, none⟩)), (41, .agg #[.slice A348 ((([b4] : List (List Int)) ++ b5).take 10).length c349, .int .i64 0])]) (obs := [fun w => CellsAt w ⟨g344, 0, none⟩ [.slice A348 ((([b4] : List (List Int)) ++ b5).take 10).length c349, .int .i64 0] 0]) (by kernel_rfl) ?_ ?_
              · intro w hs; exact cellsV (k := 1) hs rfl _ 0 (Nat.le_of_ble_eq_true (by kernel_rfl)) rfl
              refine at_eff rfl rfl ?_
              refine eff_store 3 rfl rfl rfl rfl rfl rfl (.inl (Nat.le_refl _)) rfl (Nat.le_of_ble_eq_true (by kernel_rfl)) rfl ?_
              refine at_end ?_
              refine at_thn ?_
              refine at_ret ?_
              obtain rfl := Option.some.inj H
              refine at_drop (k := 1) rfl rfl ?_
              refine at_drop (k := 1) rfl rfl ?_
              refine at_done (vs := [.agg #[.slice A348 ((([b4] : List (List Int)) ++ b5).take 10).length c349, .int .i64 0]]) (obs := [fun w => CellsAt w ⟨g47, 0, none⟩ [.slice A348 ((([b4] : List (List Int)) ++ b5).take 10).length c349, .int .i64 0] 0]) (.inl rfl) [.cell 4 27] [(4, .agg #[.slice A348 ((([b4] : List (List Int)) ++ b5).take 10).length c349, .int .i64 0])] rfl (by kernel_rfl) (fun w hs => cellsV (k := 1) hs rfl _ 0 (Nat.le_of_ble_eq_true (by kernel_rfl)) rfl) (fun w hs => ⟨_, _, [s350], rfl, ⟨A348, c349, s350, rfl, rfl, ho354⟩, hle, (hs.tail (perm_at (k := 1) rfl))⟩)
            · rw [if_neg h352] at H
              refine at_cond_f rfl (decide_eq_false h352) ?_
              refine at_skip ?_
              refine at_thn ?_
              refine at_seq ?_
              refine at_ops [0, 1] rfl ?_
              refine at_seg [0] [1] rfl [(0, .agg #[.slice A348 (([b4] : List (List Int)) ++ b5).length c349, .int .i64 0])] [4, 41] (L2 := [(4, .pointer (some ⟨g47, 0, none⟩)), (41, .agg #[.slice A348 (([b4] : List (List Int)) ++ b5).length c349, .int .i64 0])]) (obs := [fun w => CellsAt w ⟨g344, 0, none⟩ [.slice A348 (([b4] : List (List Int)) ++ b5).length c349, .int .i64 0] 0]) (by kernel_rfl) ?_ ?_
              · intro w hs; exact cellsV (k := 1) hs rfl _ 0 (Nat.le_of_ble_eq_true (by kernel_rfl)) rfl
              refine at_eff rfl rfl ?_
              refine eff_store 3 rfl rfl rfl rfl rfl rfl (.inl (Nat.le_refl _)) rfl (Nat.le_of_ble_eq_true (by kernel_rfl)) rfl ?_
              refine at_end ?_
              refine at_thn ?_
              refine at_ret ?_
              obtain rfl := Option.some.inj H
              refine at_drop (k := 1) rfl rfl ?_
              refine at_drop (k := 1) rfl rfl ?_
              refine at_done (vs := [.agg #[.slice A348 (([b4] : List (List Int)) ++ b5).length c349, .int .i64 0]]) (obs := [fun w => CellsAt w ⟨g47, 0, none⟩ [.slice A348 (([b4] : List (List Int)) ++ b5).length c349, .int .i64 0] 0]) (.inl rfl) [.cell 4 27] [(4, .agg #[.slice A348 (([b4] : List (List Int)) ++ b5).length c349, .int .i64 0])] rfl (by kernel_rfl) (fun w hs => cellsV (k := 1) hs rfl _ 0 (Nat.le_of_ble_eq_true (by kernel_rfl)) rfl) (fun w hs => ⟨_, _, [s350], rfl, ⟨A348, c349, s350, rfl, rfl, hd351⟩, hle, (hs.tail (perm_at (k := 1) rfl))⟩)
        · refine at_xone (#[true, true, false, true, true, false, false, false, true, false]) (by kernel_rfl) rfl rfl ?_
          obtain ⟨i_, hi_, hz_, _, _⟩ := info27
          refine eff_alloc rfl rfl hi_ hz_ #[.slice none ([] : List (List Int)).length 0, .int .i64 0] rfl (fun g355 => ?_)
          refine at_xS (fun w hs => hs.var (k := 2) rfl 0 rfl) ?_
          refine at_xall (fuel := 4) [2, 5] (by kernel_rfl) (by simp) (List.forall_mem_cons.2 ⟨?_, (List.forall_mem_cons.2 ⟨?_, fun _ h => nomatch h⟩)⟩)
          · refine at_xone (#[true, true, true, true, true, false, false, false, true, false]) (by kernel_rfl) rfl rfl ?_
            refine eff_buildSlice (e := 25) (cells := #[.slice A261 b4.length c262]) ([b4] : List (List Int)).length rfl rfl rfl (by kernel_rfl) (fun g356 => ?_)
            have hd357 := own_lit (K := Kd.raw 1) (e := 25) (I := J257) (xs := ([[.slice A261 b4.length c262]] : List (List Value))) (css := ([[.slice A261 b4.length c262]] : List (List Value))) (cells := #[.slice A261 b4.length c262]) (b := g356) ⟨⟨rfl, rfl, rfl⟩, trivial⟩ rfl
            refine at_merge 2 0 rfl rfl rfl ?_
            replace hd357 : DOwn (DK.sl (Kd.int .i64) 2) 25 J257 (some ⟨g356, 0, none⟩ : Option Addr) (([b4] : List (List Int)).length) ([b4] : List (List Int)) (s263 ++ [(g356, .cells #[.slice A261 b4.length c262] 25 (0, 0))]) := DOwn.lit (hs := [[.slice A261 b4.length c262]]) (sis := [s263]) hd357 ⟨⟨_, _, rfl, ho264⟩, trivial⟩ (perm_lit1 _ _)
            refine at_xS (fun w hs => hs.var (k := 2) rfl 0 rfl) ?_
            refine at_x1 3 5 (#[true, true, true, true, true, true, false, false, true, false]) rfl (by kernel_rfl) (by kernel_rfl) rfl rfl ?_
            obtain ⟨b5, H358, H⟩ := bind_some H
            have hm_ := spec_l04CopyAll.calls (I0 := J257) H358 hr41
            refine eff_call rfl rfl ok30 rfl rfl (show Meets Try.prog 30 ([.slice A39 p38.Items.length c40] : List Value).toArray _ [] _ from hm_) (Mr := ((s263 ++ [(g356, .cells #[.slice A261 b4.length c262] 25 (0, 0))]) :: [(g355, .cells #[.slice none ([] : List (List Int)).length 0, .int .i64 0] 27 (0, 0))] :: [(g46, .cells #[.slice A39 p38.Items.length c40, .int .i64 p38.At] 27 (0, 0))] :: [(g47, .cells #[.slice none ([] : List (List Int)).length 0, .int .i64 0] 27 (0, 0))] :: Fs)) (List.Perm.refl _) (fun v359 J360 M361 hq362 hJ363 => ?_)
            replace hle := hle.trans hJ363
            replace hd357 := hd357.mono hJ363
            replace hr41 := hr41.mono hJ363
            replace hr45 := hr45.mono hJ363
            obtain ⟨A364, c365, s366, rfl, rfl, ho367⟩ := hq362
            refine at_xS (fun w hs => hs.var (k := 3) rfl 0 rfl) ?_
            refine at_x1 2 6 (#[true, true, true, true, true, true, true, false, true, false]) rfl (by kernel_rfl) (by kernel_rfl) rfl rfl ?_
            obtain ⟨h368, H⟩ := ite_some H
            obtain ⟨i_, hi_, hz_, hs_, hb_⟩ := info25
            refine eff_appendD (D := (DK.sl (Kd.int .i64) 2)) (xs := ([b4] : List (List Int))) (ys := b5) 0 0 rfl rfl rfl rfl rfl und22 und22 hi_ hz_ hs_ rfl rfl rfl hd357 ho367 rfl rfl (by rw [hb_]; omega) (by omega) (fun A369 c370 s371 hd372 => ?_)
            refine at_xX (by kernel_rfl) ?_
            refine at_xseg [7] 1 (#[true, true, true, true, true, true, true, true, true, false]) rfl (by kernel_rfl) [] [4, 5, 32] (L2 := [(4, .pointer (some ⟨g47, 0, none⟩)), (5, .pointer (some ⟨g355, 0, none⟩)), (32, .agg #[.slice A369 (([b4] : List (List Int)) ++ b5).length c370, .int .i64 0])]) (obs := []) (by kernel_rfl) (by kernel_rfl) (by kernel_rfl) (.inl (by kernel_rfl)) (fun w hS => trivial) (fun w hs => trivial) ?_
            refine at_x1 0 9 (#[true, true, true, true, true, true, true, true, true, true]) rfl (by kernel_rfl) (by kernel_rfl) rfl rfl ?_
            refine eff_store 1 rfl rfl rfl rfl rfl rfl (.inl (Nat.le_refl _)) rfl (Nat.le_of_ble_eq_true (by kernel_rfl)) rfl ?_
            refine at_xX (by kernel_rfl) ?_
            refine at_xend (by kernel_rfl) ?_
            refine at_thn ?_
            refine at_seq ?_
            refine at_seq ?_
            refine at_reg [(1, .slice A369 (([b4] : List (List Int)) ++ b5).length c370)] [4, 5, 36] (L2 := [(4, .pointer (some ⟨g47, 0, none⟩)), (5, .pointer (some ⟨g355, 0, none⟩)), (36, .bool (decide (((([b4] : List (List Int)) ++ b5).length : Int) > 10)))]) (obs := [fun w => w.cell? ⟨g355, 0, none⟩ = some (.slice A369 (([b4] : List (List Int)) ++ b5).length c370)]) (by kernel_rfl) ?_ ?_
            · intro w hs; exact hs.var (k := 1) rfl 0 rfl
            refine at_thn ?_
            by_cases h373 : ((([b4] : List (List Int)) ++ b5).length : Int) > 10
            · rw [if_pos h373] at H
              refine at_cond_t rfl (decide_eq_true h373) ?_
              refine at_ops [0, 1, 2, 3, 4] rfl ?_
              obtain ⟨h374, H⟩ := ite_some H
              have ho375 := hd372.take 10 (nat_le (by decide) h374)
              refine at_seg [0, 1, 2, 3] [4] rfl [(1, .slice A369 (([b4] : List (List Int)) ++ b5).length c370), (2, .slice A369 ((([b4] : List (List Int)) ++ b5).take 10).length c370)] [4, 5, 39, 40] (L2 := [(4, .pointer (some ⟨g47, 0, none⟩)), (5, .pointer (some ⟨g355, 0, none⟩)), (39, .slice A369 ((([b4] : List (List Int)) ++ b5).take 10).length c370), (40, .pointer (some ⟨g355, 0, none⟩))]) (obs := [fun w => w.cell? ⟨g355, 0, none⟩ = some (.slice A369 (([b4] : List (List Int)) ++ b5).length c370), fun _ => 0 ≤ (0 : Int) ∧ (0 : Int) ≤ (10 : Int) ∧ (10 : Int) ≤ ((c370 : Nat) : Int), fun _ => cutV A369 c370 1 0 10 = .slice A369 ((([b4] : List (List Int)) ++ b5).take 10).length c370]) (by kernel_rfl) ?_ ?_
              · intro w hs; exact ⟨hs.var (k := 1) rfl 0 rfl, ⟨Int.le_refl _, (by decide), Int.le_trans h374 (Int.ofNat_le.2 hd372.cap)⟩, cut_downD hd372 (nat_le (by decide) h374)⟩
              refine at_eff rfl rfl ?_
              refine eff_store 1 rfl rfl rfl rfl rfl rfl (.inl (Nat.le_refl _)) rfl (Nat.le_of_ble_eq_true (by kernel_rfl)) rfl ?_
              refine at_end ?_
              refine at_thn ?_
              refine at_seq ?_
              refine at_ops [0, 1] rfl ?_
              refine at_seg [0] [1] rfl [(0, .agg #[.slice A369 ((([b4] : List (List Int)) ++ b5).take 10).length c370, .int .i64 0])] [4, 41] (L2 := [(4, .pointer (some ⟨g47, 0, none⟩)), (41, .agg #[.slice A369 ((([b4] : List (List Int)) ++ b5).take 10).length c370, .int .i64 0])]) (obs := [fun w => CellsAt w ⟨g355, 0, none⟩ [.slice A369 ((([b4] : List (List Int)) ++ b5).take 10).length c370, .int .i64 0] 0]) (by kernel_rfl) ?_ ?_
              · intro w hs; exact cellsV (k := 1) hs rfl _ 0 (Nat.le_of_ble_eq_true (by kernel_rfl)) rfl
              refine at_eff rfl rfl ?_
              refine eff_store 3 rfl rfl rfl rfl rfl rfl (.inl (Nat.le_refl _)) rfl (Nat.le_of_ble_eq_true (by kernel_rfl)) rfl ?_
              refine at_end ?_
              refine at_thn ?_
              refine at_ret ?_
              obtain rfl := Option.some.inj H
              refine at_drop (k := 1) rfl rfl ?_
              refine at_drop (k := 1) rfl rfl ?_
              refine at_done (vs := [.agg #[.slice A369 ((([b4] : List (List Int)) ++ b5).take 10).length c370, .int .i64 0]]) (obs := [fun w => CellsAt w ⟨g47, 0, none⟩ [.slice A369 ((([b4] : List (List Int)) ++ b5).take 10).length c370, .int .i64 0] 0]) (.inl rfl) [.cell 4 27] [(4, .agg #[.slice A369 ((([b4] : List (List Int)) ++ b5).take 10).length c370, .int .i64 0])] rfl (by kernel_rfl) (fun w hs => cellsV (k := 1) hs rfl _ 0 (Nat.le_of_ble_eq_true (by kernel_rfl)) rfl) (fun w hs => ⟨_, _, [s371], rfl, ⟨A369, c370, s371, rfl, rfl, ho375⟩, hle, (hs.tail (perm_at (k := 1) rfl))⟩)
            · rw [if_neg h373] at H
              refine at_cond_f rfl (decide_eq_false h373) ?_
              refine at_skip ?_
              refine at_thn ?_
              refine at_seq ?_
              refine at_ops [0, 1] rfl ?_
              refine at_seg [0] [1] rfl [(0, .agg #[.slice A369 (([b4] : List (List Int)) ++ b5).length c370, .int .i64 0])] [4, 41] (L2 := [(4, .pointer (some ⟨g47, 0, none⟩)), (41, .agg #[.slice A369 (([b4] : List (List Int)) ++ b5).length c370, .int .i64 0])]) (obs := [fun w => CellsAt w ⟨g355, 0, none⟩ [.slice A369 (([b4] : List (List Int)) ++ b5).length c370, .int .i64 0] 0]) (by kernel_rfl) ?_ ?_
              · intro w hs; exact cellsV (k := 1) hs rfl _ 0 (Nat.le_of_ble_eq_true (by kernel_rfl)) rfl
              refine at_eff rfl rfl ?_
              refine eff_store 3 rfl rfl rfl rfl rfl rfl (.inl (Nat.le_refl _)) rfl (Nat.le_of_ble_eq_true (by kernel_rfl)) rfl ?_
              refine at_end ?_
              refine at_thn ?_
              refine at_ret ?_
              obtain rfl := Option.some.inj H
              refine at_drop (k := 1) rfl rfl ?_
              refine at_drop (k := 1) rfl rfl ?_
              refine at_done (vs := [.agg #[.slice A369 (([b4] : List (List Int)) ++ b5).length c370, .int .i64 0]]) (obs := [fun w => CellsAt w ⟨g47, 0, none⟩ [.slice A369 (([b4] : List (List Int)) ++ b5).length c370, .int .i64 0] 0]) (.inl rfl) [.cell 4 27] [(4, .agg #[.slice A369 (([b4] : List (List Int)) ++ b5).length c370, .int .i64 0])] rfl (by kernel_rfl) (fun w hs => cellsV (k := 1) hs rfl _ 0 (Nat.le_of_ble_eq_true (by kernel_rfl)) rfl) (fun w hs => ⟨_, _, [s371], rfl, ⟨A369, c370, s371, rfl, rfl, hd372⟩, hle, (hs.tail (perm_at (k := 1) rfl))⟩)
          · refine at_xone (#[true, true, false, true, true, true, false, false, true, false]) (by kernel_rfl) rfl rfl ?_
            obtain ⟨b5, H376, H⟩ := bind_some H
            have hm_ := spec_l04CopyAll.calls (I0 := J257) H376 hr41
            refine eff_call rfl rfl ok30 rfl rfl (show Meets Try.prog 30 ([.slice A39 p38.Items.length c40] : List Value).toArray _ [] _ from hm_) (Mr := ([(g355, .cells #[.slice none ([] : List (List Int)).length 0, .int .i64 0] 27 (0, 0))] :: s263 :: [(g46, .cells #[.slice A39 p38.Items.length c40, .int .i64 p38.At] 27 (0, 0))] :: [(g47, .cells #[.slice none ([] : List (List Int)).length 0, .int .i64 0] 27 (0, 0))] :: Fs)) (List.Perm.refl _) (fun v377 J378 M379 hq380 hJ381 => ?_)
            replace hle := hle.trans hJ381
            replace ho264 := ho264.mono hJ381
            replace hr41 := hr41.mono hJ381
            replace hr45 := hr45.mono hJ381
            obtain ⟨A382, c383, s384, rfl, rfl, ho385⟩ := hq380
            refine at_xS (fun w hs => hs.var (k := 3) rfl 0 rfl) ?_
            refine at_x1 3 2 (#[true, true, true, true, true, true, false, false, true, false]) rfl (by kernel_rfl) (by kernel_rfl) rfl rfl ?_
            refine eff_buildSlice (e := 25) (cells := #[.slice A261 b4.length c262]) ([b4] : List (List Int)).length rfl rfl rfl (by kernel_rfl) (fun g386 => ?_)
            have hd387 := own_lit (K := Kd.raw 1) (e := 25) (I := J378) (xs := ([[.slice A261 b4.length c262]] : List (List Value))) (css := ([[.slice A261 b4.length c262]] : List (List Value))) (cells := #[.slice A261 b4.length c262]) (b := g386) ⟨⟨rfl, rfl, rfl⟩, trivial⟩ rfl
            refine at_merge 3 0 rfl rfl rfl ?_
            replace hd387 : DOwn (DK.sl (Kd.int .i64) 2) 25 J378 (some ⟨g386, 0, none⟩ : Option Addr) (([b4] : List (List Int)).length) ([b4] : List (List Int)) (s263 ++ [(g386, .cells #[.slice A261 b4.length c262] 25 (0, 0))]) := DOwn.lit (hs := [[.slice A261 b4.length c262]]) (sis := [s263]) hd387 ⟨⟨_, _, rfl, ho264⟩, trivial⟩ (perm_lit1 _ _)
            refine at_xS (fun w hs => hs.var (k := 3) rfl 0 rfl) ?_
            refine at_x1 2 6 (#[true, true, true, true, true, true, true, false, true, false]) rfl (by kernel_rfl) (by kernel_rfl) rfl rfl ?_
            obtain ⟨h388, H⟩ := ite_some H
            obtain ⟨i_, hi_, hz_, hs_, hb_⟩ := info25
            refine eff_appendD (D := (DK.sl (Kd.int .i64) 2)) (xs := ([b4] : List (List Int))) (ys := b5) 0 1 rfl rfl rfl rfl rfl und22 und22 hi_ hz_ hs_ rfl rfl rfl hd387 ho385 rfl rfl (by rw [hb_]; omega) (by omega) (fun A389 c390 s391 hd392 => ?_)
            refine at_xX (by kernel_rfl) ?_
            refine at_xseg [7] 1 (#[true, true, true, true, true, true, true, true, true, false]) rfl (by kernel_rfl) [] [4, 5, 32] (L2 := [(4, .pointer (some ⟨g47, 0, none⟩)), (5, .pointer (some ⟨g355, 0, none⟩)), (32, .agg #[.slice A389 (([b4] : List (List Int)) ++ b5).length c390, .int .i64 0])]) (obs := []) (by kernel_rfl) (by kernel_rfl) (by kernel_rfl) (.inl (by kernel_rfl)) (fun w hS => trivial) (fun w hs => trivial) ?_
            refine at_x1 0 9 (#[true, true, true, true, true, true, true, true, true, true]) rfl (by kernel_rfl) (by kernel_rfl) rfl rfl ?_
            refine eff_store 1 rfl rfl rfl rfl rfl rfl (.inl (Nat.le_refl _)) rfl (Nat.le_of_ble_eq_true (by kernel_rfl)) rfl ?_
            refine at_xX (by kernel_rfl) ?_
            refine at_xend (by kernel_rfl) ?_
            refine at_thn ?_
            refine at_seq ?_
            refine at_seq ?_
            refine at_reg [(1, .slice A389 (([b4] : List (List Int)) ++ b5).length c390)] [4, 5, 36] (L2 := [(4, .pointer (some ⟨g47, 0, none⟩)), (5, .pointer (some ⟨g355, 0, none⟩)), (36, .bool (decide (((([b4] : List (List Int)) ++ b5).length : Int) > 10)))]) (obs := [fun w => w.cell? ⟨g355, 0, none⟩ = some (.slice A389 (([b4] : List (List Int)) ++ b5).length c390)]) (by kernel_rfl) ?_ ?_
            · intro w hs; exact hs.var (k := 1) rfl 0 rfl
            refine at_thn ?_
            by_cases h393 : ((([b4] : List (List Int)) ++ b5).length : Int) > 10
            · rw [if_pos h393] at H
              refine at_cond_t rfl (decide_eq_true h393) ?_
              refine at_ops [0, 1, 2, 3, 4] rfl ?_
              obtain ⟨h394, H⟩ := ite_some H
              have ho395 := hd392.take 10 (nat_le (by decide) h394)
              refine at_seg [0, 1, 2, 3] [4] rfl [(1, .slice A389 (([b4] : List (List Int)) ++ b5).length c390), (2, .slice A389 ((([b4] : List (List Int)) ++ b5).take 10).length c390)] [4, 5, 39, 40] (L2 := [(4, .pointer (some ⟨g47, 0, none⟩)), (5, .pointer (some ⟨g355, 0, none⟩)), (39, .slice A389 ((([b4] : List (List Int)) ++ b5).take 10).length c390), (40, .pointer (some ⟨g355, 0, none⟩))]) (obs := [fun w => w.cell? ⟨g355, 0, none⟩ = some (.slice A389 (([b4] : List (List Int)) ++ b5).length c390), fun _ => 0 ≤ (0 : Int) ∧ (0 : Int) ≤ (10 : Int) ∧ (10 : Int) ≤ ((c390 : Nat) : Int), fun _ => cutV A389 c390 1 0 10 = .slice A389 ((([b4] : List (List Int)) ++ b5).take 10).length c390]) (by kernel_rfl) ?_ ?_
              · intro w hs; exact ⟨hs.var (k := 1) rfl 0 rfl, ⟨Int.le_refl _, (by decide), Int.le_trans h394 (Int.ofNat_le.2 hd392.cap)⟩, cut_downD hd392 (nat_le (by decide) h394)⟩
              refine at_eff rfl rfl ?_
              refine eff_store 1 rfl rfl rfl rfl rfl rfl (.inl (Nat.le_refl _)) rfl (Nat.le_of_ble_eq_true (by kernel_rfl)) rfl ?_
              refine at_end ?_
              refine at_thn ?_
              refine at_seq ?_
              refine at_ops [0, 1] rfl ?_
              refine at_seg [0] [1] rfl [(0, .agg #[.slice A389 ((([b4] : List (List Int)) ++ b5).take 10).length c390, .int .i64 0])] [4, 41] (L2 := [(4, .pointer (some ⟨g47, 0, none⟩)), (41, .agg #[.slice A389 ((([b4] : List (List Int)) ++ b5).take 10).length c390, .int .i64 0])]) (obs := [fun w => CellsAt w ⟨g355, 0, none⟩ [.slice A389 ((([b4] : List (List Int)) ++ b5).take 10).length c390, .int .i64 0] 0]) (by kernel_rfl) ?_ ?_
              · intro w hs; exact cellsV (k := 1) hs rfl _ 0 (Nat.le_of_ble_eq_true (by kernel_rfl)) rfl
              refine at_eff rfl rfl ?_
              refine eff_store 3 rfl rfl rfl rfl rfl rfl (.inl (Nat.le_refl _)) rfl (Nat.le_of_ble_eq_true (by kernel_rfl)) rfl ?_
              refine at_end ?_
              refine at_thn ?_
              refine at_ret ?_
              obtain rfl := Option.some.inj H
              refine at_drop (k := 1) rfl rfl ?_
              refine at_drop (k := 1) rfl rfl ?_
              refine at_done (vs := [.agg #[.slice A389 ((([b4] : List (List Int)) ++ b5).take 10).length c390, .int .i64 0]]) (obs := [fun w => CellsAt w ⟨g47, 0, none⟩ [.slice A389 ((([b4] : List (List Int)) ++ b5).take 10).length c390, .int .i64 0] 0]) (.inl rfl) [.cell 4 27] [(4, .agg #[.slice A389 ((([b4] : List (List Int)) ++ b5).take 10).length c390, .int .i64 0])] rfl (by kernel_rfl) (fun w hs => cellsV (k := 1) hs rfl _ 0 (Nat.le_of_ble_eq_true (by kernel_rfl)) rfl) (fun w hs => ⟨_, _, [s391], rfl, ⟨A389, c390, s391, rfl, rfl, ho395⟩, hle, (hs.tail (perm_at (k := 1) rfl))⟩)
            · rw [if_neg h393] at H
              refine at_cond_f rfl (decide_eq_false h393) ?_
              refine at_skip ?_
              refine at_thn ?_
              refine at_seq ?_
              refine at_ops [0, 1] rfl ?_
              refine at_seg [0] [1] rfl [(0, .agg #[.slice A389 (([b4] : List (List Int)) ++ b5).length c390, .int .i64 0])] [4, 41] (L2 := [(4, .pointer (some ⟨g47, 0, none⟩)), (41, .agg #[.slice A389 (([b4] : List (List Int)) ++ b5).length c390, .int .i64 0])]) (obs := [fun w => CellsAt w ⟨g355, 0, none⟩ [.slice A389 (([b4] : List (List Int)) ++ b5).length c390, .int .i64 0] 0]) (by kernel_rfl) ?_ ?_
              · intro w hs; exact cellsV (k := 1) hs rfl _ 0 (Nat.le_of_ble_eq_true (by kernel_rfl)) rfl
              refine at_eff rfl rfl ?_
              refine eff_store 3 rfl rfl rfl rfl rfl rfl (.inl (Nat.le_refl _)) rfl (Nat.le_of_ble_eq_true (by kernel_rfl)) rfl ?_
              refine at_end ?_
              refine at_thn ?_
              refine at_ret ?_
              obtain rfl := Option.some.inj H
              refine at_drop (k := 1) rfl rfl ?_
              refine at_drop (k := 1) rfl rfl ?_
              refine at_done (vs := [.agg #[.slice A389 (([b4] : List (List Int)) ++ b5).length c390, .int .i64 0]]) (obs := [fun w => CellsAt w ⟨g47, 0, none⟩ [.slice A389 (([b4] : List (List Int)) ++ b5).length c390, .int .i64 0] 0]) (.inl rfl) [.cell 4 27] [(4, .agg #[.slice A389 (([b4] : List (List Int)) ++ b5).length c390, .int .i64 0])] rfl (by kernel_rfl) (fun w hs => cellsV (k := 1) hs rfl _ 0 (Nat.le_of_ble_eq_true (by kernel_rfl)) rfl) (fun w hs => ⟨_, _, [s391], rfl, ⟨A389, c390, s391, rfl, rfl, hd392⟩, hle, (hs.tail (perm_at (k := 1) rfl))⟩)
      · refine at_xone (#[true, false, false, true, true, false, false, false, true, false]) (by kernel_rfl) rfl rfl ?_
        obtain ⟨i_, hi_, hz_, _, _⟩ := info27
        refine eff_alloc rfl rfl hi_ hz_ #[.slice none ([] : List (List Int)).length 0, .int .i64 0] rfl (fun g396 => ?_)
        refine at_xS (fun w hs => hs.var (k := 1) rfl 0 rfl) ?_
        refine at_x1 5 1 (#[true, true, false, true, true, false, false, false, true, false]) rfl (by kernel_rfl) (by kernel_rfl) rfl rfl ?_
        obtain ⟨b4, H397, H⟩ := bind_some H
        have hm_ := spec_l01Copy.calls (I0 := I) H397 hr45
        refine eff_call rfl rfl ok29 rfl rfl (show Meets Try.prog 29 ([.slice A43 p42.length c44] : List Value).toArray _ [] _ from hm_) (Mr := ([(g396, .cells #[.slice none ([] : List (List Int)).length 0, .int .i64 0] 27 (0, 0))] :: [(g46, .cells #[.slice A39 p38.Items.length c40, .int .i64 p38.At] 27 (0, 0))] :: [(g47, .cells #[.slice none ([] : List (List Int)).length 0, .int .i64 0] 27 (0, 0))] :: Fs)) (List.Perm.refl _) (fun v398 J399 M400 hq401 hJ402 => ?_)
        replace hle := hle.trans hJ402
        replace hr41 := hr41.mono hJ402
        replace hr45 := hr45.mono hJ402
        obtain ⟨A403, c404, s405, rfl, rfl, ho406⟩ := hq401
        refine at_xS (fun w hs => hs.var (k := 2) rfl 0 rfl) ?_
        refine at_xall (fuel := 4) [2, 5] (by kernel_rfl) (by simp) (List.forall_mem_cons.2 ⟨?_, (List.forall_mem_cons.2 ⟨?_, fun _ h => nomatch h⟩)⟩)
        · refine at_xone (#[true, true, true, true, true, false, false, false, true, false]) (by kernel_rfl) rfl rfl ?_
          refine eff_buildSlice (e := 25) (cells := #[.slice A403 b4.length c404]) ([b4] : List (List Int)).length rfl rfl rfl (by kernel_rfl) (fun g407 => ?_)
          have hd408 := own_lit (K := Kd.raw 1) (e := 25) (I := J399) (xs := ([[.slice A403 b4.length c404]] : List (List Value))) (css := ([[.slice A403 b4.length c404]] : List (List Value))) (cells := #[.slice A403 b4.length c404]) (b := g407) ⟨⟨rfl, rfl, rfl⟩, trivial⟩ rfl
          refine at_merge 1 0 rfl rfl rfl ?_
          replace hd408 : DOwn (DK.sl (Kd.int .i64) 2) 25 J399 (some ⟨g407, 0, none⟩ : Option Addr) (([b4] : List (List Int)).length) ([b4] : List (List Int)) (s405 ++ [(g407, .cells #[.slice A403 b4.length c404] 25 (0, 0))]) := DOwn.lit (hs := [[.slice A403 b4.length c404]]) (sis := [s405]) hd408 ⟨⟨_, _, rfl, ho406⟩, trivial⟩ (perm_lit1 _ _)
          refine at_xS (fun w hs => hs.var (k := 2) rfl 0 rfl) ?_
          refine at_x1 3 5 (#[true, true, true, true, true, true, false, false, true, false]) rfl (by kernel_rfl) (by kernel_rfl) rfl rfl ?_
          obtain ⟨b5, H409, H⟩ := bind_some H
          have hm_ := spec_l04CopyAll.calls (I0 := J399) H409 hr41
          refine eff_call rfl rfl ok30 rfl rfl (show Meets Try.prog 30 ([.slice A39 p38.Items.length c40] : List Value).toArray _ [] _ from hm_) (Mr := ((s405 ++ [(g407, .cells #[.slice A403 b4.length c404] 25 (0, 0))]) :: [(g396, .cells #[.slice none ([] : List (List Int)).length 0, .int .i64 0] 27 (0, 0))] :: [(g46, .cells #[.slice A39 p38.Items.length c40, .int .i64 p38.At] 27 (0, 0))] :: [(g47, .cells #[.slice none ([] : List (List Int)).length 0, .int .i64 0] 27 (0, 0))] :: Fs)) (List.Perm.refl _) (fun v410 J411 M412 hq413 hJ414 => ?_)
          replace hle := hle.trans hJ414
          replace hd408 := hd408.mono hJ414
          replace hr41 := hr41.mono hJ414
          replace hr45 := hr45.mono hJ414
          obtain ⟨A415, c416, s417, rfl, rfl, ho418⟩ := hq413
          refine at_xS (fun w hs => hs.var (k := 3) rfl 0 rfl) ?_
          refine at_x1 2 6 (#[true, true, true, true, true, true, true, false, true, false]) rfl (by kernel_rfl) (by kernel_rfl) rfl rfl ?_
          obtain ⟨h419, H⟩ := ite_some H
          obtain ⟨i_, hi_, hz_, hs_, hb_⟩ := info25
          refine eff_appendD (D := (DK.sl (Kd.int .i64) 2)) (xs := ([b4] : List (List Int))) (ys := b5) 0 0 rfl rfl rfl rfl rfl und22 und22 hi_ hz_ hs_ rfl rfl rfl hd408 ho418 rfl rfl (by rw [hb_]; omega) (by omega) (fun A420 c421 s422 hd423 => ?_)
          refine at_xX (by kernel_rfl) ?_
          refine at_xseg [7] 1 (#[true, true, true, true, true, true, true, true, true, false]) rfl (by kernel_rfl) [] [4, 5, 32] (L2 := [(4, .pointer (some ⟨g47, 0, none⟩)), (5, .pointer (some ⟨g396, 0, none⟩)), (32, .agg #[.slice A420 (([b4] : List (List Int)) ++ b5).length c421, .int .i64 0])]) (obs := []) (by kernel_rfl) (by kernel_rfl) (by kernel_rfl) (.inl (by kernel_rfl)) (fun w hS => trivial) (fun w hs => trivial) ?_
          refine at_x1 0 9 (#[true, true, true, true, true, true, true, true, true, true]) rfl (by kernel_rfl) (by kernel_rfl) rfl rfl ?_
          refine eff_store 1 rfl rfl rfl rfl rfl rfl (.inl (Nat.le_refl _)) rfl (Nat.le_of_ble_eq_true (by kernel_rfl)) rfl ?_
          refine at_xX (by kernel_rfl) ?_
          refine at_xend (by kernel_rfl) ?_
          refine at_thn ?_
          refine at_seq ?_
          refine at_seq ?_
          refine at_reg [(1, .slice A420 (([b4] : List (List Int)) ++ b5).length c421)] [4, 5, 36] (L2 := [(4, .pointer (some ⟨g47, 0, none⟩)), (5, .pointer (some ⟨g396, 0, none⟩)), (36, .bool (decide (((([b4] : List (List Int)) ++ b5).length : Int) > 10)))]) (obs := [fun w => w.cell? ⟨g396, 0, none⟩ = some (.slice A420 (([b4] : List (List Int)) ++ b5).length c421)]) (by kernel_rfl) ?_ ?_
          · intro w hs; exact hs.var (k := 1) rfl 0 rfl
          refine at_thn ?_
          by_cases h424 : ((([b4] : List (List Int)) ++ b5).length : Int) > 10
          · rw [if_pos h424] at H
            refine at_cond_t rfl (decide_eq_true h424) ?_
            refine at_ops [0, 1, 2, 3, 4] rfl ?_
            obtain ⟨h425, H⟩ := ite_some H
            have ho426 := hd423.take 10 (nat_le (by decide) h425)
            refine at_seg [0, 1, 2, 3] [4] rfl [(1, .slice A420 (([b4] : List (List Int)) ++ b5).length c421), (2, .slice A420 ((([b4] : List (List Int)) ++ b5).take 10).length c421)] [4, 5, 39, 40] (L2 := [(4, .pointer (some ⟨g47, 0, none⟩)), (5, .pointer (some ⟨g396, 0, none⟩)), (39, .slice A420 ((([b4] : List (List Int)) ++ b5).take 10).length c421), (40, .pointer (some ⟨g396, 0, none⟩))]) (obs := [fun w => w.cell? ⟨g396, 0, none⟩ = some (.slice A420 (([b4] : List (List Int)) ++ b5).length c421), fun _ => 0 ≤ (0 : Int) ∧ (0 : Int) ≤ (10 : Int) ∧ (10 : Int) ≤ ((c421 : Nat) : Int), fun _ => cutV A420 c421 1 0 10 = .slice A420 ((([b4] : List (List Int)) ++ b5).take 10).length c421]) (by kernel_rfl) ?_ ?_
            · intro w hs; exact ⟨hs.var (k := 1) rfl 0 rfl, ⟨Int.le_refl _, (by decide), Int.le_trans h425 (Int.ofNat_le.2 hd423.cap)⟩, cut_downD hd423 (nat_le (by decide) h425)⟩
            refine at_eff rfl rfl ?_
            refine eff_store 1 rfl rfl rfl rfl rfl rfl (.inl (Nat.le_refl _)) rfl (Nat.le_of_ble_eq_true (by kernel_rfl)) rfl ?_
            refine at_end ?_
            refine at_thn ?_
            refine at_seq ?_
            refine at_ops [0, 1] rfl ?_
            refine at_seg [0] [1] rfl [(0, .agg #[.slice A420 ((([b4] : List (List Int)) ++ b5).take 10).length c421, .int .i64 0])] [4, 41] (L2 := [(4, .pointer (some ⟨g47, 0, none⟩)), (41, .agg #[.slice A420 ((([b4] : List (List Int)) ++ b5).take 10).length c421, .int .i64 0])]) (obs := [fun w => CellsAt w ⟨g396, 0, none⟩ [.slice A420 ((([b4] : List (List Int)) ++ b5).take 10).length c421, .int .i64 0] 0]) (by kernel_rfl) ?_ ?_
            · intro w hs; exact cellsV (k := 1) hs rfl _ 0 (Nat.le_of_ble_eq_true (by kernel_rfl)) rfl
            refine at_eff rfl rfl ?_
            refine eff_store 3 rfl rfl rfl rfl rfl rfl (.inl (Nat.le_refl _)) rfl (Nat.le_of_ble_eq_true (by kernel_rfl)) rfl ?_
            refine at_end ?_
            refine at_thn ?_
            refine at_ret ?_
            obtain rfl := Option.some.inj H
            refine at_drop (k := 1) rfl rfl ?_
            refine at_drop (k := 1) rfl rfl ?_
            refine at_done (vs := [.agg #[.slice A420 ((([b4] : List (List Int)) ++ b5).take 10).length c421, .int .i64 0]]) (obs := [fun w => CellsAt w ⟨g47, 0, none⟩ [.slice A420 ((([b4] : List (List Int)) ++ b5).take 10).length c421, .int .i64 0] 0]) (.inl rfl) [.cell 4 27] [(4, .agg #[.slice A420 ((([b4] : List (List Int)) ++ b5).take 10).length c421, .int .i64 0])] rfl (by kernel_rfl) (fun w hs => cellsV (k := 1) hs rfl _ 0 (Nat.le_of_ble_eq_true (by kernel_rfl)) rfl) (fun w hs => ⟨_, _, [s422], rfl, ⟨A420, c421, s422, rfl, rfl, ho426⟩, hle, (hs.tail (perm_at (k := 1) rfl))⟩)
          · rw [if_neg h424] at H
            refine at_cond_f rfl (decide_eq_false h424) ?_
            refine at_skip ?_
            refine at_thn ?_
            refine at_seq ?_
            refine at_ops [0, 1] rfl ?_
            refine at_seg [0] [1] rfl [(0, .agg #[.slice A420 (([b4] : List (List Int)) ++ b5).length c421, .int .i64 0])] [4, 41] (L2 := [(4, .pointer (some ⟨g47, 0, none⟩)), (41, .agg #[.slice A420 (([b4] : List (List Int)) ++ b5).length c421, .int .i64 0])]) (obs := [fun w => CellsAt w ⟨g396, 0, none⟩ [.slice A420 (([b4] : List (List Int)) ++ b5).length c421, .int .i64 0] 0]) (by kernel_rfl) ?_ ?_
            · intro w hs; exact cellsV (k := 1) hs rfl _ 0 (Nat.le_of_ble_eq_true (by kernel_rfl)) rfl
            refine at_eff rfl rfl ?_
            refine eff_store 3 rfl rfl rfl rfl rfl rfl (.inl (Nat.le_refl _)) rfl (Nat.le_of_ble_eq_true (by kernel_rfl)) rfl ?_
            refine at_end ?_
            refine at_thn ?_
            refine at_ret ?_
            obtain rfl := Option.some.inj H
            refine at_drop (k := 1) rfl rfl ?_
            refine at_drop (k := 1) rfl rfl ?_
            refine at_done (vs := [.agg #[.slice A420 (([b4] : List (List Int)) ++ b5).length c421, .int .i64 0]]) (obs := [fun w => CellsAt w ⟨g47, 0, none⟩ [.slice A420 (([b4] : List (List Int)) ++ b5).length c421, .int .i64 0] 0]) (.inl rfl) [.cell 4 27] [(4, .agg #[.slice A420 (([b4] : List (List Int)) ++ b5).length c421, .int .i64 0])] rfl (by kernel_rfl) (fun w hs => cellsV (k := 1) hs rfl _ 0 (Nat.le_of_ble_eq_true (by kernel_rfl)) rfl) (fun w hs => ⟨_, _, [s422], rfl, ⟨A420, c421, s422, rfl, rfl, hd423⟩, hle, (hs.tail (perm_at (k := 1) rfl))⟩)
        · refine at_xone (#[true, true, false, true, true, true, false, false, true, false]) (by kernel_rfl) rfl rfl ?_
          obtain ⟨b5, H427, H⟩ := bind_some H
          have hm_ := spec_l04CopyAll.calls (I0 := J399) H427 hr41
          refine eff_call rfl rfl ok30 rfl rfl (show Meets Try.prog 30 ([.slice A39 p38.Items.length c40] : List Value).toArray _ [] _ from hm_) (Mr := (s405 :: [(g396, .cells #[.slice none ([] : List (List Int)).length 0, .int .i64 0] 27 (0, 0))] :: [(g46, .cells #[.slice A39 p38.Items.length c40, .int .i64 p38.At] 27 (0, 0))] :: [(g47, .cells #[.slice none ([] : List (List Int)).length 0, .int .i64 0] 27 (0, 0))] :: Fs)) (List.Perm.refl _) (fun v428 J429 M430 hq431 hJ432 => ?_)
          replace hle := hle.trans hJ432
          replace ho406 := ho406.mono hJ432
          replace hr41 := hr41.mono hJ432
          replace hr45 := hr45.mono hJ432
          obtain ⟨A433, c434, s435, rfl, rfl, ho436⟩ := hq431
          refine at_xS (fun w hs => hs.var (k := 3) rfl 0 rfl) ?_
          refine at_x1 3 2 (#[true, true, true, true, true, true, false, false, true, false]) rfl (by kernel_rfl) (by kernel_rfl) rfl rfl ?_
          refine eff_buildSlice (e := 25) (cells := #[.slice A403 b4.length c404]) ([b4] : List (List Int)).length rfl rfl rfl (by kernel_rfl) (fun g437 => ?_)
          have hd438 := own_lit (K := Kd.raw 1) (e := 25) (I := J429) (xs := ([[.slice A403 b4.length c404]] : List (List Value))) (css := ([[.slice A403 b4.length c404]] : List (List Value))) (cells := #[.slice A403 b4.length c404]) (b := g437) ⟨⟨rfl, rfl, rfl⟩, trivial⟩ rfl
          refine at_merge 2 0 rfl rfl rfl ?_
          replace hd438 : DOwn (DK.sl (Kd.int .i64) 2) 25 J429 (some ⟨g437, 0, none⟩ : Option Addr) (([b4] : List (List Int)).length) ([b4] : List (List Int)) (s405 ++ [(g437, .cells #[.slice A403 b4.length c404] 25 (0, 0))]) := DOwn.lit (hs := [[.slice A403 b4.length c404]]) (sis := [s405]) hd438 ⟨⟨_, _, rfl, ho406⟩, trivial⟩ (perm_lit1 _ _)
          refine at_xS (fun w hs => hs.var (k := 3) rfl 0 rfl) ?_
          refine at_x1 2 6 (#[true, true, true, true, true, true, true, false, true, false]) rfl (by kernel_rfl) (by kernel_rfl) rfl rfl ?_
          obtain ⟨h439, H⟩ := ite_some H
          obtain ⟨i_, hi_, hz_, hs_, hb_⟩ := info25
          refine eff_appendD (D := (DK.sl (Kd.int .i64) 2)) (xs := ([b4] : List (List Int))) (ys := b5) 0 1 rfl rfl rfl rfl rfl und22 und22 hi_ hz_ hs_ rfl rfl rfl hd438 ho436 rfl rfl (by rw [hb_]; omega) (by omega) (fun A440 c441 s442 hd443 => ?_)
          refine at_xX (by kernel_rfl) ?_
          refine at_xseg [7] 1 (#[true, true, true, true, true, true, true, true, true, false]) rfl (by kernel_rfl) [] [4, 5, 32] (L2 := [(4, .pointer (some ⟨g47, 0, none⟩)), (5, .pointer (some ⟨g396, 0, none⟩)), (32, .agg #[.slice A440 (([b4] : List (List Int)) ++ b5).length c441, .int .i64 0])]) (obs := []) (by kernel_rfl) (by kernel_rfl) (by kernel_rfl) (.inl (by kernel_rfl)) (fun w hS => trivial) (fun w hs => trivial) ?_
          refine at_x1 0 9 (#[true, true, true, true, true, true, true, true, true, true]) rfl (by kernel_rfl) (by kernel_rfl) rfl rfl ?_
          refine eff_store 1 rfl rfl rfl rfl rfl rfl (.inl (Nat.le_refl _)) rfl (Nat.le_of_ble_eq_true (by kernel_rfl)) rfl ?_
          refine at_xX (by kernel_rfl) ?_
          refine at_xend (by kernel_rfl) ?_
          refine at_thn ?_
          refine at_seq ?_
          refine at_seq ?_
          refine at_reg [(1, .slice A440 (([b4] : List (List Int)) ++ b5).length c441)] [4, 5, 36] (L2 := [(4, .pointer (some ⟨g47, 0, none⟩)), (5, .pointer (some ⟨g396, 0, none⟩)), (36, .bool (decide (((([b4] : List (List Int)) ++ b5).length : Int) > 10)))]) (obs := [fun w => w.cell? ⟨g396, 0, none⟩ = some (.slice A440 (([b4] : List (List Int)) ++ b5).length c441)]) (by kernel_rfl) ?_ ?_
          · intro w hs; exact hs.var (k := 1) rfl 0 rfl
          refine at_thn ?_
          by_cases h444 : ((([b4] : List (List Int)) ++ b5).length : Int) > 10
          · rw [if_pos h444] at H
            refine at_cond_t rfl (decide_eq_true h444) ?_
            refine at_ops [0, 1, 2, 3, 4] rfl ?_
            obtain ⟨h445, H⟩ := ite_some H
            have ho446 := hd443.take 10 (nat_le (by decide) h445)
            refine at_seg [0, 1, 2, 3] [4] rfl [(1, .slice A440 (([b4] : List (List Int)) ++ b5).length c441), (2, .slice A440 ((([b4] : List (List Int)) ++ b5).take 10).length c441)] [4, 5, 39, 40] (L2 := [(4, .pointer (some ⟨g47, 0, none⟩)), (5, .pointer (some ⟨g396, 0, none⟩)), (39, .slice A440 ((([b4] : List (List Int)) ++ b5).take 10).length c441), (40, .pointer (some ⟨g396, 0, none⟩))]) (obs := [fun w => w.cell? ⟨g396, 0, none⟩ = some (.slice A440 (([b4] : List (List Int)) ++ b5).length c441), fun _ => 0 ≤ (0 : Int) ∧ (0 : Int) ≤ (10 : Int) ∧ (10 : Int) ≤ ((c441 : Nat) : Int), fun _ => cutV A440 c441 1 0 10 = .slice A440 ((([b4] : List (List Int)) ++ b5).take 10).length c441]) (by kernel_rfl) ?_ ?_
            · intro w hs; exact ⟨hs.var (k := 1) rfl 0 rfl, ⟨Int.le_refl _, (by decide), Int.le_trans h445 (Int.ofNat_le.2 hd443.cap)⟩, cut_downD hd443 (nat_le (by decide) h445)⟩
            refine at_eff rfl rfl ?_
            refine eff_store 1 rfl rfl rfl rfl rfl rfl (.inl (Nat.le_refl _)) rfl (Nat.le_of_ble_eq_true (by kernel_rfl)) rfl ?_
            refine at_end ?_
            refine at_thn ?_
            refine at_seq ?_
            refine at_ops [0, 1] rfl ?_
            refine at_seg [0] [1] rfl [(0, .agg #[.slice A440 ((([b4] : List (List Int)) ++ b5).take 10).length c441, .int .i64 0])] [4, 41] (L2 := [(4, .pointer (some ⟨g47, 0, none⟩)), (41, .agg #[.slice A440 ((([b4] : List (List Int)) ++ b5).take 10).length c441, .int .i64 0])]) (obs := [fun w => CellsAt w ⟨g396, 0, none⟩ [.slice A440 ((([b4] : List (List Int)) ++ b5).take 10).length c441, .int .i64 0] 0]) (by kernel_rfl) ?_ ?_
            · intro w hs; exact cellsV (k := 1) hs rfl _ 0 (Nat.le_of_ble_eq_true (by kernel_rfl)) rfl
            refine at_eff rfl rfl ?_
            refine eff_store 3 rfl rfl rfl rfl rfl rfl (.inl (Nat.le_refl _)) rfl (Nat.le_of_ble_eq_true (by kernel_rfl)) rfl ?_
            refine at_end ?_
            refine at_thn ?_
            refine at_ret ?_
            obtain rfl := Option.some.inj H
            refine at_drop (k := 1) rfl rfl ?_
            refine at_drop (k := 1) rfl rfl ?_
            refine at_done (vs := [.agg #[.slice A440 ((([b4] : List (List Int)) ++ b5).take 10).length c441, .int .i64 0]]) (obs := [fun w => CellsAt w ⟨g47, 0, none⟩ [.slice A440 ((([b4] : List (List Int)) ++ b5).take 10).length c441, .int .i64 0] 0]) (.inl rfl) [.cell 4 27] [(4, .agg #[.slice A440 ((([b4] : List (List Int)) ++ b5).take 10).length c441, .int .i64 0])] rfl (by kernel_rfl) (fun w hs => cellsV (k := 1) hs rfl _ 0 (Nat.le_of_ble_eq_true (by kernel_rfl)) rfl) (fun w hs => ⟨_, _, [s442], rfl, ⟨A440, c441, s442, rfl, rfl, ho446⟩, hle, (hs.tail (perm_at (k := 1) rfl))⟩)
          · rw [if_neg h444] at H
            refine at_cond_f rfl (decide_eq_false h444) ?_
            refine at_skip ?_
            refine at_thn ?_
            refine at_seq ?_
            refine at_ops [0, 1] rfl ?_
            refine at_seg [0] [1] rfl [(0, .agg #[.slice A440 (([b4] : List (List Int)) ++ b5).length c441, .int .i64 0])] [4, 41] (L2 := [(4, .pointer (some ⟨g47, 0, none⟩)), (41, .agg #[.slice A440 (([b4] : List (List Int)) ++ b5).length c441, .int .i64 0])]) (obs := [fun w => CellsAt w ⟨g396, 0, none⟩ [.slice A440 (([b4] : List (List Int)) ++ b5).length c441, .int .i64 0] 0]) (by kernel_rfl) ?_ ?_
            · intro w hs; exact cellsV (k := 1) hs rfl _ 0 (Nat.le_of_ble_eq_true (by kernel_rfl)) rfl
            refine at_eff rfl rfl ?_
            refine eff_store 3 rfl rfl rfl rfl rfl rfl (.inl (Nat.le_refl _)) rfl (Nat.le_of_ble_eq_true (by kernel_rfl)) rfl ?_
            refine at_end ?_
            refine at_thn ?_
            refine at_ret ?_
            obtain rfl := Option.some.inj H
            refine at_drop (k := 1) rfl rfl ?_
            refine at_drop (k := 1) rfl rfl ?_
            refine at_done (vs := [.agg #[.slice A440 (([b4] : List (List Int)) ++ b5).length c441, .int .i64 0]]) (obs := [fun w => CellsAt w ⟨g47, 0, none⟩ [.slice A440 (([b4] : List (List Int)) ++ b5).length c441, .int .i64 0] 0]) (.inl rfl) [.cell 4 27] [(4, .agg #[.slice A440 (([b4] : List (List Int)) ++ b5).length c441, .int .i64 0])] rfl (by kernel_rfl) (fun w hs => cellsV (k := 1) hs rfl _ 0 (Nat.le_of_ble_eq_true (by kernel_rfl)) rfl) (fun w hs => ⟨_, _, [s442], rfl, ⟨A440, c441, s442, rfl, rfl, hd443⟩, hle, (hs.tail (perm_at (k := 1) rfl))⟩)
    · intro Jn50
      refine at_join (fun L I Ms => ∃ (k549 : Nat), ∃ (x548 : Bool), L = [(1, .slice A43 p42.length c44), (2, .pointer (some ⟨g46, 0, none⟩)), (4, .pointer (some ⟨g47, 0, none⟩)), (22, .bool x548)] ∧ Ms = ([(g46, .cells #[.slice A39 p38.Items.length c40, .int .i64 p38.At] 27 (0, 0))] :: [(g47, .cells #[.slice none ([] : List (List Int)).length 0, .int .i64 0] 27 (0, 0))] :: Fs) ∧ spec_RingPush_j2 k549 x548 p38 p42 = some r ∧ ImmLe I0 I ∧ k549 ≤ k ∧ Rd (Kd.slice (Kd.int .i64)) I A39 c40 p38.Items ∧ Rd (Kd.int .i64) I A43 c44 p42) ?_ ?_
      · clear H hle hr41 hr45
        intro L I Ms h_; obtain ⟨k549, x548, hL_, hM_, H, hle, hk550, hr41, hr45⟩ := h_; rw [hL_, hM_]; clear hL_ hM_ L Ms
        rcases k549 with _ | k549
        · exact (no_none H).elim
        rw [spec_RingPush_j2] at H
        by_cases h551 : x548 = true
        · rw [if_pos h551] at H
          refine at_cond_t rfl (h551) ?_
          refine at_seq ?_
          refine at_ops [0, 1, 2] rfl ?_
          refine at_seg [0] [1, 2] rfl [(0, .agg #[.slice A39 p38.Items.length c40, .int .i64 p38.At])] [4, 23] (L2 := [(4, .pointer (some ⟨g47, 0, none⟩)), (23, .agg #[.slice A39 p38.Items.length c40, .int .i64 p38.At])]) (obs := [fun w => CellsAt w ⟨g46, 0, none⟩ [.slice A39 p38.Items.length c40, .int .i64 p38.At] 0]) (by kernel_rfl) ?_ ?_
          · intro w hs; exact cellsV (k := 0) hs rfl _ 0 (Nat.le_of_ble_eq_true (by kernel_rfl)) rfl
          refine at_eff rfl rfl ?_
          obtain ⟨b6, H552, H⟩ := bind_some H
          have hm_ := spec_l04Copy.calls (I0 := I) H552 hr41
          refine eff_call rfl rfl ok28 rfl rfl (show Meets Try.prog 28 ([.agg #[.slice A39 p38.Items.length c40, .int .i64 p38.At]] : List Value).toArray _ [] _ from hm_) (Mr := ([(g46, .cells #[.slice A39 p38.Items.length c40, .int .i64 p38.At] 27 (0, 0))] :: [(g47, .cells #[.slice none ([] : List (List Int)).length 0, .int .i64 0] 27 (0, 0))] :: Fs)) (List.Perm.refl _) (fun v553 J554 M555 hq556 hJ557 => ?_)
          replace hle := hle.trans hJ557
          replace hr41 := hr41.mono hJ557
          obtain ⟨A558, c559, s560, rfl, rfl, ho561⟩ := hq556
          refine at_eff rfl rfl ?_
          refine eff_store 2 rfl rfl rfl rfl rfl rfl (.inl (Nat.le_refl _)) rfl (Nat.le_of_ble_eq_true (by kernel_rfl)) rfl ?_
          refine at_end ?_
          refine at_thn ?_
          refine at_ret ?_
          refine at_then_ret ?_
          obtain rfl := Option.some.inj H
          refine at_drop (k := 1) rfl rfl ?_
          refine at_done (vs := [.agg #[.slice A558 b6.Items.length c559, .int .i64 b6.At]]) (obs := [fun w => CellsAt w ⟨g47, 0, none⟩ [.slice A558 b6.Items.length c559, .int .i64 b6.At] 0]) (.inl rfl) [.cell 4 27] [(4, .agg #[.slice A558 b6.Items.length c559, .int .i64 b6.At])] rfl (by kernel_rfl) (fun w hs => cellsV (k := 1) hs rfl _ 0 (Nat.le_of_ble_eq_true (by kernel_rfl)) rfl) (fun w hs => ⟨_, _, [s560], rfl, ⟨A558, c559, s560, rfl, rfl, ho561⟩, hle, (hs.tail (perm_at (k := 1) rfl))⟩)
        · rw [if_neg h551] at H
          refine at_cond_f rfl (ff_of h551) ?_
          refine at_skip ?_
          refine at_thn ?_
          refine at_keep [1, 2, 4] (L2 := [(1, .slice A43 p42.length c44), (2, .pointer (some ⟨g46, 0, none⟩)), (4, .pointer (some ⟨g47, 0, none⟩))]) rfl ?_
          exact Jn50 _ _ _ ⟨_, rfl, rfl, H, hle, by omega, hr41, hr45⟩
      · intro Jn447
        refine at_ops [0, 1, 2, 3, 4, 5, 6, 7, 8, 9, 10, 11, 12] rfl ?_
        refine at_seg [0] [1, 2, 3, 4, 5, 6, 7, 8, 9, 10, 11, 12] rfl [(0, .agg #[.slice A39 p38.Items.length c40, .int .i64 p38.At])] [1, 2, 4, 10] (L2 := [(1, .slice A43 p42.length c44), (2, .pointer (some ⟨g46, 0, none⟩)), (4, .pointer (some ⟨g47, 0, none⟩)), (10, .agg #[.slice A39 p38.Items.length c40, .int .i64 p38.At])]) (obs := [fun w => CellsAt w ⟨g46, 0, none⟩ [.slice A39 p38.Items.length c40, .int .i64 p38.At] 0]) (by kernel_rfl) ?_ ?_
        · intro w hs; exact cellsV (k := 1) hs rfl _ 0 (Nat.le_of_ble_eq_true (by kernel_rfl)) rfl
        refine at_eff rfl rfl ?_
        obtain ⟨b7, H562, H⟩ := bind_some H
        have hm_ := spec_RingRight.calls (I0 := I0) H562 hr41
        refine eff_call rfl rfl ok19 rfl rfl (show Meets Try.prog 19 ([.agg #[.slice A39 p38.Items.length c40, .int .i64 p38.At]] : List Value).toArray _ [] _ from hm_) (Mr := ([(g47, .cells #[.slice none ([] : List (List Int)).length 0, .int .i64 0] 27 (0, 0))] :: [(g46, .cells #[.slice A39 p38.Items.length c40, .int .i64 p38.At] 27 (0, 0))] :: Fs)) (List.Perm.refl _) (fun v563 J564 M565 hq566 hJ567 => ?_)
        replace hle := hle.trans hJ567
        replace hr41 := hr41.mono hJ567
        replace hr45 := hr45.mono hJ567
        obtain ⟨rfl, rfl⟩ := hq566
        by_cases h568 : b7 = true
        · rw [if_pos h568] at H
          refine at_seg [2, 3, 4] [5, 6, 7, 8, 9, 10, 11, 12] rfl [(3, .bool false)] [1, 2, 4, 13, 14] (L2 := [(1, .slice A43 p42.length c44), (2, .pointer (some ⟨g46, 0, none⟩)), (4, .pointer (some ⟨g47, 0, none⟩)), (13, .bool false), (14, .slice A43 p42.length c44)]) (obs := [fun _ => (.bool (!b7) : Value) = .bool false]) (by kernel_rfl) ?_ ?_
          · intro w hs; exact congrArg Value.bool (not_ff (h568))
          refine at_eff rfl rfl ?_
          obtain ⟨b8, H569, H⟩ := bind_some H
          have hm_ := spec_PointsRight.calls (I0 := J564) H569 hr45
          refine eff_call rfl rfl ok20 rfl rfl (show Meets Try.prog 20 ([.slice A43 p42.length c44] : List Value).toArray _ [] _ from hm_) (Mr := ([(g47, .cells #[.slice none ([] : List (List Int)).length 0, .int .i64 0] 27 (0, 0))] :: [(g46, .cells #[.slice A39 p38.Items.length c40, .int .i64 p38.At] 27 (0, 0))] :: Fs)) (List.Perm.refl _) (fun v570 J571 M572 hq573 hJ574 => ?_)
          replace hle := hle.trans hJ574
          replace hr41 := hr41.mono hJ574
          replace hr45 := hr45.mono hJ574
          obtain ⟨rfl, rfl⟩ := hq573
          by_cases h575 : b8 = true
          · rw [if_pos h575] at H
            refine at_seg [6, 7, 8, 9, 10, 11, 12] [] rfl [(8, .bool false)] [1, 2, 4, 22] (L2 := [(1, .slice A43 p42.length c44), (2, .pointer (some ⟨g46, 0, none⟩)), (4, .pointer (some ⟨g47, 0, none⟩)), (22, .bool ((p42.length : Int) == 0))]) (obs := [fun _ => (.bool (!b8) : Value) = .bool false]) (by kernel_rfl) ?_ ?_
            · intro w hs; exact congrArg Value.bool (not_ff (h575))
            refine at_end ?_
            refine at_thn ?_
            refine at_perm ((perm_at (k := 1) rfl).trans ((List.Perm.refl _).cons _)) ?_
            refine at_keep [1, 2, 4, 22] (L2 := [(1, .slice A43 p42.length c44), (2, .pointer (some ⟨g46, 0, none⟩)), (4, .pointer (some ⟨g47, 0, none⟩)), (22, .bool ((p42.length : Int) == 0))]) rfl ?_
            exact Jn447 _ _ _ ⟨_, ((p42.length : Int) == 0), rfl, rfl, H, hle, by omega, hr41, hr45⟩
          · rw [if_neg h575] at H
            refine at_seg [6, 7, 8, 9, 10, 11, 12] [] rfl [(8, .bool true)] [1, 2, 4, 22] (L2 := [(1, .slice A43 p42.length c44), (2, .pointer (some ⟨g46, 0, none⟩)), (4, .pointer (some ⟨g47, 0, none⟩)), (22, .bool true)]) (obs := [fun _ => (.bool (!b8) : Value) = .bool true]) (by kernel_rfl) ?_ ?_
            · intro w hs; exact congrArg Value.bool (not_tt (ff_of h575))
            refine at_end ?_
            refine at_thn ?_
            refine at_perm ((perm_at (k := 1) rfl).trans ((List.Perm.refl _).cons _)) ?_
            refine at_keep [1, 2, 4, 22] (L2 := [(1, .slice A43 p42.length c44), (2, .pointer (some ⟨g46, 0, none⟩)), (4, .pointer (some ⟨g47, 0, none⟩)), (22, .bool true)]) rfl ?_
            exact Jn447 _ _ _ ⟨_, true, rfl, rfl, H, hle, by omega, hr41, hr45⟩
        · rw [if_neg h568] at H
          refine at_seg [2, 3, 4] [5, 6, 7, 8, 9, 10, 11, 12] rfl [(3, .bool true)] [1, 2, 4, 13, 14] (L2 := [(1, .slice A43 p42.length c44), (2, .pointer (some ⟨g46, 0, none⟩)), (4, .pointer (some ⟨g47, 0, none⟩)), (13, .bool true), (14, undef)]) (obs := [fun _ => (.bool (!b7) : Value) = .bool true]) (by kernel_rfl) ?_ ?_
          · intro w hs; exact congrArg Value.bool (not_tt (ff_of h568))
          refine at_seg [5, 6, 7, 8, 9, 10, 11, 12] [] rfl [] [1, 2, 4, 22] (L2 := [(1, .slice A43 p42.length c44), (2, .pointer (some ⟨g46, 0, none⟩)), (4, .pointer (some ⟨g47, 0, none⟩)), (22, .bool true)]) (obs := []) (by kernel_rfl) ?_ ?_
          · intro w hs; exact trivial
          refine at_end ?_
          refine at_thn ?_
          refine at_perm ((perm_at (k := 1) rfl).trans ((List.Perm.refl _).cons _)) ?_
          refine at_keep [1, 2, 4, 22] (L2 := [(1, .slice A43 p42.length c44), (2, .pointer (some ⟨g46, 0, none⟩)), (4, .pointer (some ⟨g47, 0, none⟩)), (22, .bool true)]) rfl ?_
          exact Jn447 _ _ _ ⟨_, true, rfl, rfl, H, hle, by omega, hr41, hr45⟩
end Go.Proofs.Ytabdhegmepaeiaa
