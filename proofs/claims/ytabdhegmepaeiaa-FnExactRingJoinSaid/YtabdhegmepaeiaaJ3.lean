import Derived.Test.YtabdhegmepaeiaaJ2
namespace Go.Proofs.Ytabdhegmepaeiaa
open Go Eng
set_option linter.unusedVariables false
set_option linter.unusedSimpArgs false
/-! ### loop.example/g00146/spec.RingPush: function 7 -/
mutual
def spec_RingPush_j2 : Nat → Bool → T_impl_Ring → (List Int) → Option T_impl_Ring
  | 0, _, _, _ => none
  | k + 1, x565, p55, p59 => if x565 = true then ((spec_l04Copy k p55).bind fun b6 => (some b6)) else (spec_RingPush_j0 k p55 p59)
def spec_RingPush_j0 : Nat → T_impl_Ring → (List Int) → Option T_impl_Ring
  | 0, _, _ => none
  | k + 1, p55, p59 => (spec_l01Copy p59).bind fun b4 => ((spec_l04CopyAll k p55.Items).bind fun b5 => (if ([b4] : List (List Int)).length + b5.length ≤ 5864062014805 then (if ((([b4] : List (List Int)) ++ b5).length : Int) > 10 then (if 10 ≤ ((([b4] : List (List Int)) ++ b5).length : Int) then (some (⟨(([b4] : List (List Int)) ++ b5).take 10, 0⟩ : T_impl_Ring)) else none) else (some (⟨(([b4] : List (List Int)) ++ b5), 0⟩ : T_impl_Ring))) else none))
end
def spec_RingPush (k : Nat) (p55 : T_impl_Ring) (p59 : List Int) : Option T_impl_Ring := if (p59.length : Int) > 400 then (some (⟨([] : List (List Int)), 0⟩ : T_impl_Ring)) else ((spec_RingRight k p55).bind fun b7 => (if b7 = true then ((spec_PointsRight k p59).bind fun b8 => (if b8 = true then (spec_RingPush_j2 k ((p59.length : Int) == 0) p55 p59) else (spec_RingPush_j2 k true p55 p59))) else (spec_RingPush_j2 k true p55 p59)))
set_option maxHeartbeats 4000000 in
set_option maxRecDepth 100000 in
theorem spec_RingPush.calls {k : Nat} {p55 : T_impl_Ring} {p59 : List Int} {r : T_impl_Ring} {I0 : Imm} {A56 : Option Addr} {c57 : Nat} {A60 : Option Addr} {c61 : Nat} (H : spec_RingPush k p55 p59 = some r) (hr58 : Rd (Kd.slice (Kd.int .i64)) I0 A56 c57 p55.Items) (hr62 : Rd (Kd.int .i64) I0 A60 c61 p59) :
    Meets Try.prog 7 ([.agg #[.slice A56 p55.Items.length c57, .int .i64 p55.At], .slice A60 p59.length c61] : List Value).toArray I0 [] (fun v J M => ∃ (A_1 : Option Addr) (c_2 : Nat) (s_3 : Seg), v = .agg #[.slice A_1 r.Items.length c_2, .int .i64 r.At] ∧ M = [s_3] ∧ DOwn (DK.sl (Kd.int .i64) 2) 25 J A_1 c_2 r.Items s_3) := by
  have hle := ImmLe.refl I0
  unfold spec_RingPush at H
  refine fn_intro (fn := Try.f7) 42 Try.func7 rfl rfl rfl (fun E Fs => ?_)
  refine at_seq ?_
  refine at_ops [0, 1] rfl ?_
  refine at_eff rfl rfl ?_
  refine eff_box rfl rfl rfl #[.slice A56 p55.Items.length c57, .int .i64 p55.At] rfl (fun g63 => ?_)
  refine at_eff rfl rfl ?_
  obtain ⟨i_, hi_, hz_, _, _⟩ := info27
  refine eff_alloc rfl rfl hi_ hz_ #[.slice none ([] : List (List Int)).length 0, .int .i64 0] rfl (fun g64 => ?_)
  refine at_end ?_
  refine at_thn ?_
  refine at_seq ?_
  refine at_seq ?_
  refine at_reg [] [1, 2, 4, 8] (L2 := [(1, .slice A60 p59.length c61), (2, .pointer (some ⟨g63, 0, none⟩)), (4, .pointer (some ⟨g64, 0, none⟩)), (8, .bool (decide ((p59.length : Int) > 400)))]) (obs := []) (by kernel_rfl) ?_ ?_
  · intro w hs; exact trivial
  refine at_thn ?_
  by_cases h65 : (p59.length : Int) > 400
  · rw [if_pos h65] at H
    refine at_cond_t rfl (decide_eq_true h65) ?_
    refine at_seq ?_
    refine at_ops [0, 1] rfl ?_
    refine at_seg [0] [1] rfl [] [4, 9] (L2 := [(4, .pointer (some ⟨g64, 0, none⟩)), (9, .agg #[.slice none ([] : List (List Int)).length 0, .int .i64 0])]) (obs := []) (by kernel_rfl) ?_ ?_
    · intro w hs; exact trivial
    refine at_eff rfl rfl ?_
    refine eff_store 0 rfl rfl rfl rfl rfl rfl (.inl (Nat.le_refl _)) rfl (Nat.le_of_ble_eq_true (by kernel_rfl)) rfl ?_
    refine at_end ?_
    refine at_thn ?_
    refine at_ret ?_
    refine at_then_ret ?_
    refine at_nilseg ?_
    have hd66 := DOwn.nil (DK.sl (Kd.int .i64) 2) 25 I0
    obtain rfl := Option.some.inj H
    refine at_drop (k := 2) rfl rfl ?_
    refine at_done (vs := [.agg #[.slice none ([] : List (List Int)).length 0, .int .i64 0]]) (obs := [fun w => CellsAt w ⟨g64, 0, none⟩ [.slice none ([] : List (List Int)).length 0, .int .i64 0] 0]) (.inl rfl) [.cell 4 27] [(4, .agg #[.slice none ([] : List (List Int)).length 0, .int .i64 0])] rfl (by kernel_rfl) (fun w hs => cellsV (k := 1) hs rfl _ 0 (Nat.le_of_ble_eq_true (by kernel_rfl)) rfl) (fun w hs => ⟨_, _, [[]], rfl, ⟨none, 0, [], rfl, rfl, hd66⟩, hle, (hs.tail (perm_at (k := 1) rfl))⟩)
  · rw [if_neg h65] at H
    refine at_cond_f rfl (decide_eq_false h65) ?_
    refine at_skip ?_
    refine at_thn ?_
    refine at_join (fun L I Ms => ∃ (k168 : Nat), L = [(1, .slice A60 p59.length c61), (2, .pointer (some ⟨g63, 0, none⟩)), (4, .pointer (some ⟨g64, 0, none⟩))] ∧ Ms = ([(g63, .cells #[.slice A56 p55.Items.length c57, .int .i64 p55.At] 27 (0, 0))] :: [(g64, .cells #[.slice none ([] : List (List Int)).length 0, .int .i64 0] 27 (0, 0))] :: Fs) ∧ spec_RingPush_j0 k168 p55 p59 = some r ∧ ImmLe I0 I ∧ k168 ≤ k ∧ Rd (Kd.slice (Kd.int .i64)) I A56 c57 p55.Items ∧ Rd (Kd.int .i64) I A60 c61 p59) ?_ ?_
    · clear H hle hr58 hr62
      intro L I Ms h_; obtain ⟨k168, hL_, hM_, H, hle, hk169, hr58, hr62⟩ := h_; rw [hL_, hM_]; clear hL_ hM_ L Ms
      rcases k168 with _ | k168
      · exact (no_none H).elim
      rw [spec_RingPush_j0] at H
      refine at_seq ?_
      refine at_x hmo (fun w => w.cell? ⟨g63, 0, none⟩ = some (.slice A56 p55.Items.length c57)) [6, 9] ?_
      refine at_xseg [0, 3, 4] 7 (#[true, false, false, true, true, false, false, false, false, false]) rfl (by kernel_rfl) [(4, .slice A56 p55.Items.length c57)] [4, 25, 29] (L2 := [(4, .pointer (some ⟨g64, 0, none⟩)), (25, .slice A60 p59.length c61), (29, .slice A56 p55.Items.length c57)]) (obs := [fun w => w.cell? ⟨g63, 0, none⟩ = some (.slice A56 p55.Items.length c57)]) (by kernel_rfl) (by kernel_rfl) (by kernel_rfl) (.inr fun w hs => hs.var (k := 0) rfl 0 rfl) (fun w hS => hS) (fun w hs => hs.var (k := 0) rfl 0 rfl) ?_
      refine at_xall (fuel := 6) [1, 8] (by kernel_rfl) (by simp) (List.forall_mem_cons.2 ⟨?_, (List.forall_mem_cons.2 ⟨?_, fun _ h => nomatch h⟩)⟩)
      · refine at_xone (#[true, true, false, true, true, false, false, false, false, false]) (by kernel_rfl) rfl rfl ?_
        obtain ⟨b4, H272, H⟩ := bind_some H
        have hm_ := spec_l01Copy.calls (I0 := I) H272 hr62
        refine eff_call rfl rfl ok29 rfl rfl (show Meets Try.prog 29 ([.slice A60 p59.length c61] : List Value).toArray _ [] _ from hm_) (Mr := ([(g63, .cells #[.slice A56 p55.Items.length c57, .int .i64 p55.At] 27 (0, 0))] :: [(g64, .cells #[.slice none ([] : List (List Int)).length 0, .int .i64 0] 27 (0, 0))] :: Fs)) (List.Perm.refl _) (fun v273 J274 M275 hq276 hJ277 => ?_)
        replace hle := hle.trans hJ277
        replace hr58 := hr58.mono hJ277
        replace hr62 := hr62.mono hJ277
        obtain ⟨A278, c279, s280, rfl, rfl, ho281⟩ := hq276
        refine at_xS (fun w hs => hs.var (k := 1) rfl 0 rfl) ?_
        refine at_xall (fuel := 5) [2, 5, 8] (by kernel_rfl) (by simp) (List.forall_mem_cons.2 ⟨?_, (List.forall_mem_cons.2 ⟨?_, (List.forall_mem_cons.2 ⟨?_, fun _ h => nomatch h⟩)⟩)⟩)
        · refine at_xone (#[true, true, true, true, true, false, false, false, false, false]) (by kernel_rfl) rfl rfl ?_
          refine eff_buildSlice (e := 25) (cells := #[.slice A278 b4.length c279]) ([b4] : List (List Int)).length rfl rfl rfl (by kernel_rfl) (fun g282 => ?_)
          have hd283 := own_lit (K := Kd.raw 1) (e := 25) (I := J274) (xs := ([[.slice A278 b4.length c279]] : List (List Value))) (css := ([[.slice A278 b4.length c279]] : List (List Value))) (cells := #[.slice A278 b4.length c279]) (b := g282) ⟨⟨rfl, rfl, rfl⟩, trivial⟩ rfl
          refine at_merge 1 0 rfl rfl rfl ?_
          replace hd283 : DOwn (DK.sl (Kd.int .i64) 2) 25 J274 (some ⟨g282, 0, none⟩ : Option Addr) (([b4] : List (List Int)).length) ([b4] : List (List Int)) (s280 ++ [(g282, .cells #[.slice A278 b4.length c279] 25 (0, 0))]) := DOwn.lit (hs := [[.slice A278 b4.length c279]]) (sis := [s280]) hd283 ⟨⟨_, _, rfl, ho281⟩, trivial⟩ (perm_lit1 _ _)
          refine at_xS (fun w hs => hs.var (k := 1) rfl 0 rfl) ?_
          refine at_xall (fuel := 4) [5, 8] (by kernel_rfl) (by simp) (List.forall_mem_cons.2 ⟨?_, (List.forall_mem_cons.2 ⟨?_, fun _ h => nomatch h⟩)⟩)
          · refine at_xone (#[true, true, true, true, true, true, false, false, false, false]) (by kernel_rfl) rfl rfl ?_
            obtain ⟨b5, H284, H⟩ := bind_some H
            have hm_ := spec_l04CopyAll.calls (I0 := J274) H284 hr58
            refine eff_call rfl rfl ok30 rfl rfl (show Meets Try.prog 30 ([.slice A56 p55.Items.length c57] : List Value).toArray _ [] _ from hm_) (Mr := ((s280 ++ [(g282, .cells #[.slice A278 b4.length c279] 25 (0, 0))]) :: [(g63, .cells #[.slice A56 p55.Items.length c57, .int .i64 p55.At] 27 (0, 0))] :: [(g64, .cells #[.slice none ([] : List (List Int)).length 0, .int .i64 0] 27 (0, 0))] :: Fs)) (List.Perm.refl _) (fun v285 J286 M287 hq288 hJ289 => ?_)
            replace hle := hle.trans hJ289
            replace hd283 := hd283.mono hJ289
            replace hr58 := hr58.mono hJ289
            replace hr62 := hr62.mono hJ289
            obtain ⟨A290, c291, s292, rfl, rfl, ho293⟩ := hq288
            refine at_xS (fun w hs => hs.var (k := 2) rfl 0 rfl) ?_
            refine at_xall (fuel := 3) [6, 8] (by kernel_rfl) (by simp) (List.forall_mem_cons.2 ⟨?_, (List.forall_mem_cons.2 ⟨?_, fun _ h => nomatch h⟩)⟩)
            · refine at_xone (#[true, true, true, true, true, true, true, false, false, false]) (by kernel_rfl) rfl rfl ?_
              obtain ⟨h294, H⟩ := ite_some H
              obtain ⟨i_, hi_, hz_, hs_, hb_⟩ := info25
              refine eff_appendD (D := (DK.sl (Kd.int .i64) 2)) (xs := ([b4] : List (List Int))) (ys := b5) 0 0 rfl rfl rfl rfl rfl und22 und22 hi_ hz_ hs_ rfl rfl rfl hd283 ho293 rfl rfl (by rw [hb_]; omega) (by omega) (fun A295 c296 s297 hd298 => ?_)
              refine at_xX (by kernel_rfl) ?_
              refine at_xseg [7] 2 (#[true, true, true, true, true, true, true, true, false, false]) rfl (by kernel_rfl) [] [4, 32] (L2 := [(4, .pointer (some ⟨g64, 0, none⟩)), (32, .agg #[.slice A295 (([b4] : List (List Int)) ++ b5).length c296, .int .i64 0])]) (obs := []) (by kernel_rfl) (by kernel_rfl) (by kernel_rfl) (.inl (by kernel_rfl)) (fun w hS => trivial) (fun w hs => trivial) ?_
              refine at_x1 1 8 (#[true, true, true, true, true, true, true, true, true, false]) rfl (by kernel_rfl) (by kernel_rfl) rfl rfl ?_
              obtain ⟨i_, hi_, hz_, _, _⟩ := info27
              refine eff_alloc rfl rfl hi_ hz_ #[.slice none ([] : List (List Int)).length 0, .int .i64 0] rfl (fun g299 => ?_)
              refine at_xX (by kernel_rfl) ?_
              refine at_x1 0 9 (#[true, true, true, true, true, true, true, true, true, true]) rfl (by kernel_rfl) (by kernel_rfl) rfl rfl ?_
              refine eff_store 0 rfl rfl rfl rfl rfl rfl (.inl (Nat.le_refl _)) rfl (Nat.le_of_ble_eq_true (by kernel_rfl)) rfl ?_
              refine at_xX (by kernel_rfl) ?_
              refine at_xend (by kernel_rfl) ?_
              refine at_thn ?_
              refine at_seq ?_
              refine at_seq ?_
              refine at_reg [(1, .slice A295 (([b4] : List (List Int)) ++ b5).length c296)] [4, 5, 36] (L2 := [(4, .pointer (some ⟨g64, 0, none⟩)), (5, .pointer (some ⟨g299, 0, none⟩)), (36, .bool (decide (((([b4] : List (List Int)) ++ b5).length : Int) > 10)))]) (obs := [fun w => w.cell? ⟨g299, 0, none⟩ = some (.slice A295 (([b4] : List (List Int)) ++ b5).length c296)]) (by kernel_rfl) ?_ ?_
              · intro w hs; exact hs.var (k := 0) rfl 0 rfl
              refine at_thn ?_
              by_cases h300 : ((([b4] : List (List Int)) ++ b5).length : Int) > 10
              · rw [if_pos h300] at H
                refine at_cond_t rfl (decide_eq_true h300) ?_
                refine at_ops [0, 1, 2, 3, 4] rfl ?_
                obtain ⟨h301, H⟩ := ite_some H
                have ho302 := hd298.take 10 (nat_le (by decide) h301)
                refine at_seg [0, 1, 2, 3] [4] rfl [(1, .slice A295 (([b4] : List (List Int)) ++ b5).length c296), (2, .slice A295 ((([b4] : List (List Int)) ++ b5).take 10).length c296)] [4, 5, 39, 40] (L2 := [(4, .pointer (some ⟨g64, 0, none⟩)), (5, .pointer (some ⟨g299, 0, none⟩)), (39, .slice A295 ((([b4] : List (List Int)) ++ b5).take 10).length c296), (40, .pointer (some ⟨g299, 0, none⟩))]) (obs := [fun w => w.cell? ⟨g299, 0, none⟩ = some (.slice A295 (([b4] : List (List Int)) ++ b5).length c296), fun _ => 0 ≤ (0 : Int) ∧ (0 : Int) ≤ (10 : Int) ∧ (10 : Int) ≤ ((c296 : Nat) : Int), fun _ => cutV A295 c296 1 0 10 = .slice A295 ((([b4] : List (List Int)) ++ b5).take 10).length c296]) (by kernel_rfl) ?_ ?_
                · intro w hs; exact ⟨hs.var (k := 0) rfl 0 rfl, ⟨Int.le_refl _, (by decide), Int.le_trans h301 (Int.ofNat_le.2 hd298.cap)⟩, cut_downD hd298 (nat_le (by decide) h301)⟩
                refine at_eff rfl rfl ?_
                refine eff_store 0 rfl rfl rfl rfl rfl rfl (.inl (Nat.le_refl _)) rfl (Nat.le_of_ble_eq_true (by kernel_rfl)) rfl ?_
                refine at_end ?_
                refine at_thn ?_
                refine at_seq ?_
                refine at_ops [0, 1] rfl ?_
                refine at_seg [0] [1] rfl [(0, .agg #[.slice A295 ((([b4] : List (List Int)) ++ b5).take 10).length c296, .int .i64 0])] [4, 41] (L2 := [(4, .pointer (some ⟨g64, 0, none⟩)), (41, .agg #[.slice A295 ((([b4] : List (List Int)) ++ b5).take 10).length c296, .int .i64 0])]) (obs := [fun w => CellsAt w ⟨g299, 0, none⟩ [.slice A295 ((([b4] : List (List Int)) ++ b5).take 10).length c296, .int .i64 0] 0]) (by kernel_rfl) ?_ ?_
                · intro w hs; exact cellsV (k := 0) hs rfl _ 0 (Nat.le_of_ble_eq_true (by kernel_rfl)) rfl
                refine at_eff rfl rfl ?_
                refine eff_store 3 rfl rfl rfl rfl rfl rfl (.inl (Nat.le_refl _)) rfl (Nat.le_of_ble_eq_true (by kernel_rfl)) rfl ?_
                refine at_end ?_
                refine at_thn ?_
                refine at_ret ?_
                obtain rfl := Option.some.inj H
                refine at_drop (k := 0) rfl rfl ?_
                refine at_drop (k := 1) rfl rfl ?_
                refine at_done (vs := [.agg #[.slice A295 ((([b4] : List (List Int)) ++ b5).take 10).length c296, .int .i64 0]]) (obs := [fun w => CellsAt w ⟨g64, 0, none⟩ [.slice A295 ((([b4] : List (List Int)) ++ b5).take 10).length c296, .int .i64 0] 0]) (.inl rfl) [.cell 4 27] [(4, .agg #[.slice A295 ((([b4] : List (List Int)) ++ b5).take 10).length c296, .int .i64 0])] rfl (by kernel_rfl) (fun w hs => cellsV (k := 1) hs rfl _ 0 (Nat.le_of_ble_eq_true (by kernel_rfl)) rfl) (fun w hs => ⟨_, _, [s297], rfl, ⟨A295, c296, s297, rfl, rfl, ho302⟩, hle, (hs.tail (perm_at (k := 1) rfl))⟩)
              · rw [if_neg h300] at H
                refine at_cond_f rfl (decide_eq_false h300) ?_
                refine at_skip ?_
                refine at_thn ?_
                refine at_seq ?_
                refine at_ops [0, 1] rfl ?_
                refine at_seg [0] [1] rfl [(0, .agg #[.slice A295 (([b4] : List (List Int)) ++ b5).length c296, .int .i64 0])] [4, 41] (L2 := [(4, .pointer (some ⟨g64, 0, none⟩)), (41, .agg #[.slice A295 (([b4] : List (List Int)) ++ b5).length c296, .int .i64 0])]) (obs := [fun w => CellsAt w ⟨g299, 0, none⟩ [.slice A295 (([b4] : List (List Int)) ++ b5).length c296, .int .i64 0] 0]) (by kernel_rfl) ?_ ?_
                · intro w hs; exact cellsV (k := 0) hs rfl _ 0 (Nat.le_of_ble_eq_true (by kernel_rfl)) rfl
                refine at_eff rfl rfl ?_
                refine eff_store 3 rfl rfl rfl rfl rfl rfl (.inl (Nat.le_refl _)) rfl (Nat.le_of_ble_eq_true (by kernel_rfl)) rfl ?_
                refine at_end ?_
                refine at_thn ?_
                refine at_ret ?_
                obtain rfl := Option.some.inj H
                refine at_drop (k := 0) rfl rfl ?_
                refine at_drop (k := 1) rfl rfl ?_
                refine at_done (vs := [.agg #[.slice A295 (([b4] : List (List Int)) ++ b5).length c296, .int .i64 0]]) (obs := [fun w => CellsAt w ⟨g64, 0, none⟩ [.slice A295 (([b4] : List (List Int)) ++ b5).length c296, .int .i64 0] 0]) (.inl rfl) [.cell 4 27] [(4, .agg #[.slice A295 (([b4] : List (List Int)) ++ b5).length c296, .int .i64 0])] rfl (by kernel_rfl) (fun w hs => cellsV (k := 1) hs rfl _ 0 (Nat.le_of_ble_eq_true (by kernel_rfl)) rfl) (fun w hs => ⟨_, _, [s297], rfl, ⟨A295, c296, s297, rfl, rfl, hd298⟩, hle, (hs.tail (perm_at (k := 1) rfl))⟩)
            · refine at_xone (#[true, true, true, true, true, true, false, false, true, false]) (by kernel_rfl) rfl rfl ?_
              obtain ⟨i_, hi_, hz_, _, _⟩ := info27
              refine eff_alloc rfl rfl hi_ hz_ #[.slice none ([] : List (List Int)).length 0, .int .i64 0] rfl (fun g303 => ?_)
              refine at_xS (fun w hs => hs.var (k := 3) rfl 0 rfl) ?_
              refine at_x1 2 6 (#[true, true, true, true, true, true, true, false, true, false]) rfl (by kernel_rfl) (by kernel_rfl) rfl rfl ?_
              obtain ⟨h304, H⟩ := ite_some H
              obtain ⟨i_, hi_, hz_, hs_, hb_⟩ := info25
              refine eff_appendD (D := (DK.sl (Kd.int .i64) 2)) (xs := ([b4] : List (List Int))) (ys := b5) 1 1 rfl rfl rfl rfl rfl und22 und22 hi_ hz_ hs_ rfl rfl rfl hd283 ho293 rfl rfl (by rw [hb_]; omega) (by omega) (fun A305 c306 s307 hd308 => ?_)
              refine at_xX (by kernel_rfl) ?_
              refine at_xseg [7] 1 (#[true, true, true, true, true, true, true, true, true, false]) rfl (by kernel_rfl) [] [4, 5, 32] (L2 := [(4, .pointer (some ⟨g64, 0, none⟩)), (5, .pointer (some ⟨g303, 0, none⟩)), (32, .agg #[.slice A305 (([b4] : List (List Int)) ++ b5).length c306, .int .i64 0])]) (obs := []) (by kernel_rfl) (by kernel_rfl) (by kernel_rfl) (.inl (by kernel_rfl)) (fun w hS => trivial) (fun w hs => trivial) ?_
              refine at_x1 0 9 (#[true, true, true, true, true, true, true, true, true, true]) rfl (by kernel_rfl) (by kernel_rfl) rfl rfl ?_
              refine eff_store 0 rfl rfl rfl rfl rfl rfl (.inl (Nat.le_refl _)) rfl (Nat.le_of_ble_eq_true (by kernel_rfl)) rfl ?_
              refine at_xX (by kernel_rfl) ?_
              refine at_xend (by kernel_rfl) ?_
              refine at_thn ?_
              refine at_seq ?_
              refine at_seq ?_
              refine at_reg [(1, .slice A305 (([b4] : List (List Int)) ++ b5).length c306)] [4, 5, 36] (L2 := [(4, .pointer (some ⟨g64, 0, none⟩)), (5, .pointer (some ⟨g303, 0, none⟩)), (36, .bool (decide (((([b4] : List (List Int)) ++ b5).length : Int) > 10)))]) (obs := [fun w => w.cell? ⟨g303, 0, none⟩ = some (.slice A305 (([b4] : List (List Int)) ++ b5).length c306)]) (by kernel_rfl) ?_ ?_
              · intro w hs; exact hs.var (k := 0) rfl 0 rfl
              refine at_thn ?_
              by_cases h309 : ((([b4] : List (List Int)) ++ b5).length : Int) > 10
              · rw [if_pos h309] at H
                refine at_cond_t rfl (decide_eq_true h309) ?_
                refine at_ops [0, 1, 2, 3, 4] rfl ?_
                obtain ⟨h310, H⟩ := ite_some H
                have ho311 := hd308.take 10 (nat_le (by decide) h310)
                refine at_seg [0, 1, 2, 3] [4] rfl [(1, .slice A305 (([b4] : List (List Int)) ++ b5).length c306), (2, .slice A305 ((([b4] : List (List Int)) ++ b5).take 10).length c306)] [4, 5, 39, 40] (L2 := [(4, .pointer (some ⟨g64, 0, none⟩)), (5, .pointer (some ⟨g303, 0, none⟩)), (39, .slice A305 ((([b4] : List (List Int)) ++ b5).take 10).length c306), (40, .pointer (some ⟨g303, 0, none⟩))]) (obs := [fun w => w.cell? ⟨g303, 0, none⟩ = some (.slice A305 (([b4] : List (List Int)) ++ b5).length c306), fun _ => 0 ≤ (0 : Int) ∧ (0 : Int) ≤ (10 : Int) ∧ (10 : Int) ≤ ((c306 : Nat) : Int), fun _ => cutV A305 c306 1 0 10 = .slice A305 ((([b4] : List (List Int)) ++ b5).take 10).length c306]) (by kernel_rfl) ?_ ?_
                · intro w hs; exact ⟨hs.var (k := 0) rfl 0 rfl, ⟨Int.le_refl _, (by decide), Int.le_trans h310 (Int.ofNat_le.2 hd308.cap)⟩, cut_downD hd308 (nat_le (by decide) h310)⟩
                refine at_eff rfl rfl ?_
                refine eff_store 0 rfl rfl rfl rfl rfl rfl (.inl (Nat.le_refl _)) rfl (Nat.le_of_ble_eq_true (by kernel_rfl)) rfl ?_
                refine at_end ?_
                refine at_thn ?_
                refine at_seq ?_
                refine at_ops [0, 1] rfl ?_
                refine at_seg [0] [1] rfl [(0, .agg #[.slice A305 ((([b4] : List (List Int)) ++ b5).take 10).length c306, .int .i64 0])] [4, 41] (L2 := [(4, .pointer (some ⟨g64, 0, none⟩)), (41, .agg #[.slice A305 ((([b4] : List (List Int)) ++ b5).take 10).length c306, .int .i64 0])]) (obs := [fun w => CellsAt w ⟨g303, 0, none⟩ [.slice A305 ((([b4] : List (List Int)) ++ b5).take 10).length c306, .int .i64 0] 0]) (by kernel_rfl) ?_ ?_
                · intro w hs; exact cellsV (k := 0) hs rfl _ 0 (Nat.le_of_ble_eq_true (by kernel_rfl)) rfl
                refine at_eff rfl rfl ?_
                refine eff_store 3 rfl rfl rfl rfl rfl rfl (.inl (Nat.le_refl _)) rfl (Nat.le_of_ble_eq_true (by kernel_rfl)) rfl ?_
                refine at_end ?_
                refine at_thn ?_
                refine at_ret ?_
                obtain rfl := Option.some.inj H
                refine at_drop (k := 0) rfl rfl ?_
                refine at_drop (k := 1) rfl rfl ?_
                refine at_done (vs := [.agg #[.slice A305 ((([b4] : List (List Int)) ++ b5).take 10).length c306, .int .i64 0]]) (obs := [fun w => CellsAt w ⟨g64, 0, none⟩ [.slice A305 ((([b4] : List (List Int)) ++ b5).take 10).length c306, .int .i64 0] 0]) (.inl rfl) [.cell 4 27] [(4, .agg #[.slice A305 ((([b4] : List (List Int)) ++ b5).take 10).length c306, .int .i64 0])] rfl (by kernel_rfl) (fun w hs => cellsV (k := 1) hs rfl _ 0 (Nat.le_of_ble_eq_true (by kernel_rfl)) rfl) (fun w hs => ⟨_, _, [s307], rfl, ⟨A305, c306, s307, rfl, rfl, ho311⟩, hle, (hs.tail (perm_at (k := 1) rfl))⟩)
              · rw [if_neg h309] at H
                refine at_cond_f rfl (decide_eq_false h309) ?_
                refine at_skip ?_
                refine at_thn ?_
                refine at_seq ?_
                refine at_ops [0, 1] rfl ?_
                refine at_seg [0] [1] rfl [(0, .agg #[.slice A305 (([b4] : List (List Int)) ++ b5).length c306, .int .i64 0])] [4, 41] (L2 := [(4, .pointer (some ⟨g64, 0, none⟩)), (41, .agg #[.slice A305 (([b4] : List (List Int)) ++ b5).length c306, .int .i64 0])]) (obs := [fun w => CellsAt w ⟨g303, 0, none⟩ [.slice A305 (([b4] : List (List Int)) ++ b5).length c306, .int .i64 0] 0]) (by kernel_rfl) ?_ ?_
                · intro w hs; exact cellsV (k := 0) hs rfl _ 0 (Nat.le_of_ble_eq_true (by kernel_rfl)) rfl
                refine at_eff rfl rfl ?_
                refine eff_store 3 rfl rfl rfl rfl rfl rfl (.inl (Nat.le_refl _)) rfl (Nat.le_of_ble_eq_true (by kernel_rfl)) rfl ?_
                refine at_end ?_
                refine at_thn ?_
                refine at_ret ?_
                obtain rfl := Option.some.inj H
                refine at_drop (k := 0) rfl rfl ?_
                refine at_drop (k := 1) rfl rfl ?_
                refine at_done (vs := [.agg #[.slice A305 (([b4] : List (List Int)) ++ b5).length c306, .int .i64 0]]) (obs := [fun w => CellsAt w ⟨g64, 0, none⟩ [.slice A305 (([b4] : List (List Int)) ++ b5).length c306, .int .i64 0] 0]) (.inl rfl) [.cell 4 27] [(4, .agg #[.slice A305 (([b4] : List (List Int)) ++ b5).length c306, .int .i64 0])] rfl (by kernel_rfl) (fun w hs => cellsV (k := 1) hs rfl _ 0 (Nat.le_of_ble_eq_true (by kernel_rfl)) rfl) (fun w hs => ⟨_, _, [s307], rfl, ⟨A305, c306, s307, rfl, rfl, hd308⟩, hle, (hs.tail (perm_at (k := 1) rfl))⟩)
          · refine at_xone (#[true, true, true, true, true, false, false, false, true, false]) (by kernel_rfl) rfl rfl ?_
            obtain ⟨i_, hi_, hz_, _, _⟩ := info27
            refine eff_alloc rfl rfl hi_ hz_ #[.slice none ([] : List (List Int)).length 0, .int .i64 0] rfl (fun g312 => ?_)
            refine at_xS (fun w hs => hs.var (k := 2) rfl 0 rfl) ?_
            refine at_x1 3 5 (#[true, true, true, true, true, true, false, false, true, false]) rfl (by kernel_rfl) (by kernel_rfl) rfl rfl ?_
            obtain ⟨b5, H313, H⟩ := bind_some H
            have hm_ := spec_l04CopyAll.calls (I0 := J274) H313 hr58
            refine eff_call rfl rfl ok30 rfl rfl (show Meets Try.prog 30 ([.slice A56 p55.Items.length c57] : List Value).toArray _ [] _ from hm_) (Mr := ([(g312, .cells #[.slice none ([] : List (List Int)).length 0, .int .i64 0] 27 (0, 0))] :: (s280 ++ [(g282, .cells #[.slice A278 b4.length c279] 25 (0, 0))]) :: [(g63, .cells #[.slice A56 p55.Items.length c57, .int .i64 p55.At] 27 (0, 0))] :: [(g64, .cells #[.slice none ([] : List (List Int)).length 0, .int .i64 0] 27 (0, 0))] :: Fs)) (List.Perm.refl _) (fun v314 J315 M316 hq317 hJ318 => ?_)
            replace hle := hle.trans hJ318
            replace hd283 := hd283.mono hJ318
            replace hr58 := hr58.mono hJ318
            replace hr62 := hr62.mono hJ318
            obtain ⟨A319, c320, s321, rfl, rfl, ho322⟩ := hq317
            refine at_xS (fun w hs => hs.var (k := 3) rfl 0 rfl) ?_
            refine at_x1 2 6 (#[true, true, true, true, true, true, true, false, true, false]) rfl (by kernel_rfl) (by kernel_rfl) rfl rfl ?_
            obtain ⟨h323, H⟩ := ite_some H
            obtain ⟨i_, hi_, hz_, hs_, hb_⟩ := info25
            refine eff_appendD (D := (DK.sl (Kd.int .i64) 2)) (xs := ([b4] : List (List Int))) (ys := b5) 1 0 rfl rfl rfl rfl rfl und22 und22 hi_ hz_ hs_ rfl rfl rfl hd283 ho322 rfl rfl (by rw [hb_]; omega) (by omega) (fun A324 c325 s326 hd327 => ?_)
            refine at_xX (by kernel_rfl) ?_
            refine at_xseg [7] 1 (#[true, true, true, true, true, true, true, true, true, false]) rfl (by kernel_rfl) [] [4, 5, 32] (L2 := [(4, .pointer (some ⟨g64, 0, none⟩)), (5, .pointer (some ⟨g312, 0, none⟩)), (32, .agg #[.slice A324 (([b4] : List (List Int)) ++ b5).length c325, .int .i64 0])]) (obs := []) (by kernel_rfl) (by kernel_rfl) (by kernel_rfl) (.inl (by kernel_rfl)) (fun w hS => trivial) (fun w hs => trivial) ?_
            refine at_x1 0 9 (#[true, true, true, true, true, true, true, true, true, true]) rfl (by kernel_rfl) (by kernel_rfl) rfl rfl ?_
            refine eff_store 0 rfl rfl rfl rfl rfl rfl (.inl (Nat.le_refl _)) rfl (Nat.le_of_ble_eq_true (by kernel_rfl)) rfl ?_
            refine at_xX (by kernel_rfl) ?_
            refine at_xend (by kernel_rfl) ?_
            refine at_thn ?_
            refine at_seq ?_
            refine at_seq ?_
            refine at_reg [(1, .slice A324 (([b4] : List (List Int)) ++ b5).length c325)] [4, 5, 36] (L2 := [(4, .pointer (some ⟨g64, 0, none⟩)), (5, .pointer (some ⟨g312, 0, none⟩)), (36, .bool (decide (((([b4] : List (List Int)) ++ b5).length : Int) > 10)))]) (obs := [fun w => w.cell? ⟨g312, 0, none⟩ = some (.slice A324 (([b4] : List (List Int)) ++ b5).length c325)]) (by kernel_rfl) ?_ ?_
            · intro w hs; exact hs.var (k := 0) rfl 0 rfl
            refine at_thn ?_
            by_cases h328 : ((([b4] : List (List Int)) ++ b5).length : Int) > 10
            · rw [if_pos h328] at H
              refine at_cond_t rfl (decide_eq_true h328) ?_
              refine at_ops [0, 1, 2, 3, 4] rfl ?_
              obtain ⟨h329, H⟩ := ite_some H
              have ho330 := hd327.take 10 (nat_le (by decide) h329)
              refine at_seg [0, 1, 2, 3] [4] rfl [(1, .slice A324 (([b4] : List (List Int)) ++ b5).length c325), (2, .slice A324 ((([b4] : List (List Int)) ++ b5).take 10).length c325)] [4, 5, 39, 40] (L2 := [(4, .pointer (some ⟨g64, 0, none⟩)), (5, .pointer (some ⟨g312, 0, none⟩)), (39, .slice A324 ((([b4] : List (List Int)) ++ b5).take 10).length c325), (40, .pointer (some ⟨g312, 0, none⟩))]) (obs := [fun w => w.cell? ⟨g312, 0, none⟩ = some (.slice A324 (([b4] : List (List Int)) ++ b5).length c325), fun _ => 0 ≤ (0 : Int) ∧ (0 : Int) ≤ (10 : Int) ∧ (10 : Int) ≤ ((c325 : Nat) : Int), fun _ => cutV A324 c325 1 0 10 = .slice A324 ((([b4] : List (List Int)) ++ b5).take 10).length c325]) (by kernel_rfl) ?_ ?_
              · intro w hs; exact ⟨hs.var (k := 0) rfl 0 rfl, ⟨Int.le_refl _, (by decide), Int.le_trans h329 (Int.ofNat_le.2 hd327.cap)⟩, cut_downD hd327 (nat_le (by decide) h329)⟩
              refine at_eff rfl rfl ?_
              refine eff_store 0 rfl rfl rfl rfl rfl rfl (.inl (Nat.le_refl _)) rfl (Nat.le_of_ble_eq_true (by kernel_rfl)) rfl ?_
              refine at_end ?_
              refine at_thn ?_
              refine at_seq ?_
              refine at_ops [0, 1] rfl ?_
              refine at_seg [0] [1] rfl [(0, .agg #[.slice A324 ((([b4] : List (List Int)) ++ b5).take 10).length c325, .int .i64 0])] [4, 41] (L2 := [(4, .pointer (some ⟨g64, 0, none⟩)), (41, .agg #[.slice A324 ((([b4] : List (List Int)) ++ b5).take 10).length c325, .int .i64 0])]) (obs := [fun w => CellsAt w ⟨g312, 0, none⟩ [.slice A324 ((([b4] : List (List Int)) ++ b5).take 10).length c325, .int .i64 0] 0]) (by kernel_rfl) ?_ ?_
              · intro w hs; exact cellsV (k := 0) hs rfl _ 0 (Nat.le_of_ble_eq_true (by kernel_rfl)) rfl
              refine at_eff rfl rfl ?_
              refine eff_store 3 rfl rfl rfl rfl rfl rfl (.inl (Nat.le_refl _)) rfl (Nat.le_of_ble_eq_true (by kernel_rfl)) rfl ?_
              refine at_end ?_
              refine at_thn ?_
              refine at_ret ?_
              obtain rfl := Option.some.inj H
              refine at_drop (k := 0) rfl rfl ?_
              refine at_drop (k := 1) rfl rfl ?_
              refine at_done (vs := [.agg #[.slice A324 ((([b4] : List (List Int)) ++ b5).take 10).length c325, .int .i64 0]]) (obs := [fun w => CellsAt w ⟨g64, 0, none⟩ [.slice A324 ((([b4] : List (List Int)) ++ b5).take 10).length c325, .int .i64 0] 0]) (.inl rfl) [.cell 4 27] [(4, .agg #[.slice A324 ((([b4] : List (List Int)) ++ b5).take 10).length c325, .int .i64 0])] rfl (by kernel_rfl) (fun w hs => cellsV (k := 1) hs rfl _ 0 (Nat.le_of_ble_eq_true (by kernel_rfl)) rfl) (fun w hs => ⟨_, _, [s326], rfl, ⟨A324, c325, s326, rfl, rfl, ho330⟩, hle, (hs.tail (perm_at (k := 1) rfl))⟩)
            · rw [if_neg h328] at H
              refine at_cond_f rfl (decide_eq_false h328) ?_
              refine at_skip ?_
              refine at_thn ?_
              refine at_seq ?_
              refine at_ops [0, 1] rfl ?_
              refine at_seg [0] [1] rfl [(0, .agg #[.slice A324 (([b4] : List (List Int)) ++ b5).length c325, .int .i64 0])] [4, 41] (L2 := [(4, .pointer (some ⟨g64, 0, none⟩)), (41, .agg #[.slice A324 (([b4] : List (List Int)) ++ b5).length c325, .int .i64 0])]) (obs := [fun w => CellsAt w ⟨g312, 0, none⟩ [.slice A324 (([b4] : List (List Int)) ++ b5).length c325, .int .i64 0] 0]) (by kernel_rfl) ?_ ?_
              · intro w hs; exact cellsV (k := 0) hs rfl _ 0 (Nat.le_of_ble_eq_true (by kernel_rfl)) rfl
              refine at_eff rfl rfl ?_
              refine eff_store 3 rfl rfl rfl rfl rfl rfl (.inl (Nat.le_refl _)) rfl (Nat.le_of_ble_eq_true (by kernel_rfl)) rfl ?_
              refine at_end ?_
              refine at_thn ?_
              refine at_ret ?_
              obtain rfl := Option.some.inj H
              refine at_drop (k := 0) rfl rfl ?_
              refine at_drop (k := 1) rfl rfl ?_
              refine at_done (vs := [.agg #[.slice A324 (([b4] : List (List Int)) ++ b5).length c325, .int .i64 0]]) (obs := [fun w => CellsAt w ⟨g64, 0, none⟩ [.slice A324 (([b4] : List (List Int)) ++ b5).length c325, .int .i64 0] 0]) (.inl rfl) [.cell 4 27] [(4, .agg #[.slice A324 (([b4] : List (List Int)) ++ b5).length c325, .int .i64 0])] rfl (by kernel_rfl) (fun w hs => cellsV (k := 1) hs rfl _ 0 (Nat.le_of_ble_eq_true (by kernel_rfl)) rfl) (fun w hs => ⟨_, _, [s326], rfl, ⟨A324, c325, s326, rfl, rfl, hd327⟩, hle, (hs.tail (perm_at (k := 1) rfl))⟩)
        · refine at_xone (#[true, true, false, true, true, true, false, false, false, false]) (by kernel_rfl) rfl rfl ?_
          obtain ⟨b5, H331, H⟩ := bind_some H
          have hm_ := spec_l04CopyAll.calls (I0 := J274) H331 hr58
          refine eff_call rfl rfl ok30 rfl rfl (show Meets Try.prog 30 ([.slice A56 p55.Items.length c57] : List Value).toArray _ [] _ from hm_) (Mr := (s280 :: [(g63, .cells #[.slice A56 p55.Items.length c57, .int .i64 p55.At] 27 (0, 0))] :: [(g64, .cells #[.slice none ([] : List (List Int)).length 0, .int .i64 0] 27 (0, 0))] :: Fs)) (List.Perm.refl _) (fun v332 J333 M334 hq335 hJ336 => ?_)
          replace hle := hle.trans hJ336
          replace ho281 := ho281.mono hJ336
          replace hr58 := hr58.mono hJ336
          replace hr62 := hr62.mono hJ336
          obtain ⟨A337, c338, s339, rfl, rfl, ho340⟩ := hq335
          refine at_xS (fun w hs => hs.var (k := 2) rfl 0 rfl) ?_
          refine at_xall (fuel := 4) [2, 8] (by kernel_rfl) (by simp) (List.forall_mem_cons.2 ⟨?_, (List.forall_mem_cons.2 ⟨?_, fun _ h => nomatch h⟩)⟩)
          · refine at_xone (#[true, true, true, true, true, true, false, false, false, false]) (by kernel_rfl) rfl rfl ?_
            refine eff_buildSlice (e := 25) (cells := #[.slice A278 b4.length c279]) ([b4] : List (List Int)).length rfl rfl rfl (by kernel_rfl) (fun g341 => ?_)
            have hd342 := own_lit (K := Kd.raw 1) (e := 25) (I := J333) (xs := ([[.slice A278 b4.length c279]] : List (List Value))) (css := ([[.slice A278 b4.length c279]] : List (List Value))) (cells := #[.slice A278 b4.length c279]) (b := g341) ⟨⟨rfl, rfl, rfl⟩, trivial⟩ rfl
            refine at_merge 2 0 rfl rfl rfl ?_
            replace hd342 : DOwn (DK.sl (Kd.int .i64) 2) 25 J333 (some ⟨g341, 0, none⟩ : Option Addr) (([b4] : List (List Int)).length) ([b4] : List (List Int)) (s280 ++ [(g341, .cells #[.slice A278 b4.length c279] 25 (0, 0))]) := DOwn.lit (hs := [[.slice A278 b4.length c279]]) (sis := [s280]) hd342 ⟨⟨_, _, rfl, ho281⟩, trivial⟩ (perm_lit1 _ _)
            refine at_xS (fun w hs => hs.var (k := 2) rfl 0 rfl) ?_
            refine at_xall (fuel := 3) [6, 8] (by kernel_rfl) (by simp) (List.forall_mem_cons.2 ⟨?_, (List.forall_mem_cons.2 ⟨?_, fun _ h => nomatch h⟩)⟩)
            · refine at_xone (#[true, true, true, true, true, true, true, false, false, false]) (by kernel_rfl) rfl rfl ?_
              obtain ⟨h343, H⟩ := ite_some H
              obtain ⟨i_, hi_, hz_, hs_, hb_⟩ := info25
              refine eff_appendD (D := (DK.sl (Kd.int .i64) 2)) (xs := ([b4] : List (List Int))) (ys := b5) 0 1 rfl rfl rfl rfl rfl und22 und22 hi_ hz_ hs_ rfl rfl rfl hd342 ho340 rfl rfl (by rw [hb_]; omega) (by omega) (fun A344 c345 s346 hd347 => ?_)
              refine at_xX (by kernel_rfl) ?_
              refine at_xseg [7] 2 (#[true, true, true, true, true, true, true, true, false, false]) rfl (by kernel_rfl) [] [4, 32] (L2 := [(4, .pointer (some ⟨g64, 0, none⟩)), (32, .agg #[.slice A344 (([b4] : List (List Int)) ++ b5).length c345, .int .i64 0])]) (obs := []) (by kernel_rfl) (by kernel_rfl) (by kernel_rfl) (.inl (by kernel_rfl)) (fun w hS => trivial) (fun w hs => trivial) ?_
              refine at_x1 1 8 (#[true, true, true, true, true, true, true, true, true, false]) rfl (by kernel_rfl) (by kernel_rfl) rfl rfl ?_
              obtain ⟨i_, hi_, hz_, _, _⟩ := info27
              refine eff_alloc rfl rfl hi_ hz_ #[.slice none ([] : List (List Int)).length 0, .int .i64 0] rfl (fun g348 => ?_)
              refine at_xX (by kernel_rfl) ?_
              refine at_x1 0 9 (#[true, true, true, true, true, true, true, true, true, true]) rfl (by kernel_rfl) (by kernel_rfl) rfl rfl ?_
              refine eff_store 0 rfl rfl rfl rfl rfl rfl (.inl (Nat.le_refl _)) rfl (Nat.le_of_ble_eq_true (by kernel_rfl)) rfl ?_
              refine at_xX (by kernel_rfl) ?_
              refine at_xend (by kernel_rfl) ?_
              refine at_thn ?_
              refine at_seq ?_
              refine at_seq ?_
              refine at_reg [(1, .slice A344 (([b4] : List (List Int)) ++ b5).length c345)] [4, 5, 36] (L2 := [(4, .pointer (some ⟨g64, 0, none⟩)), (5, .pointer (some ⟨g348, 0, none⟩)), (36, .bool (decide (((([b4] : List (List Int)) ++ b5).length : Int) > 10)))]) (obs := [fun w => w.cell? ⟨g348, 0, none⟩ = some (.slice A344 (([b4] : List (List Int)) ++ b5).length c345)]) (by kernel_rfl) ?_ ?_
              · intro w hs; exact hs.var (k := 0) rfl 0 rfl
              refine at_thn ?_
              by_cases h349 : ((([b4] : List (List Int)) ++ b5).length : Int) > 10
              · rw [if_pos h349] at H
                refine at_cond_t rfl (decide_eq_true h349) ?_
                refine at_ops [0, 1, 2, 3, 4] rfl ?_
                obtain ⟨h350, H⟩ := ite_some H
                have ho351 := hd347.take 10 (nat_le (by decide) h350)
                refine at_seg [0, 1, 2, 3] [4] rfl [(1, .slice A344 (([b4] : List (List Int)) ++ b5).length c345), (2, .slice A344 ((([b4] : List (List Int)) ++ b5).take 10).length c345)] [4, 5, 39, 40] (L2 := [(4, .pointer (some ⟨g64, 0, none⟩)), (5, .pointer (some ⟨g348, 0, none⟩)), (39, .slice A344 ((([b4] : List (List Int)) ++ b5).take 10).length c345), (40, .pointer (some ⟨g348, 0, none⟩))]) (obs := [fun w => w.cell? ⟨g348, 0, none⟩ = some (.slice A344 (([b4] : List (List Int)) ++ b5).length c345), fun _ => 0 ≤ (0 : Int) ∧ (0 : Int) ≤ (10 : Int) ∧ (10 : Int) ≤ ((c345 : Nat) : Int), fun _ => cutV A344 c345 1 0 10 = .slice A344 ((([b4] : List (List Int)) ++ b5).take 10).length c345]) (by kernel_rfl) ?_ ?_
                · intro w hs; exact ⟨hs.var (k := 0) rfl 0 rfl, ⟨Int.le_refl _, (by decide), Int.le_trans h350 (Int.ofNat_le.2 hd347.cap)⟩, cut_downD hd347 (nat_le (by decide) h350)⟩
                refine at_eff rfl rfl ?_
                refine eff_store 0 rfl rfl rfl rfl rfl rfl (.inl (Nat.le_refl _)) rfl (Nat.le_of_ble_eq_true (by kernel_rfl)) rfl ?_
                refine at_end ?_
                refine at_thn ?_
                refine at_seq ?_
                refine at_ops [0, 1] rfl ?_
                refine at_seg [0] [1] rfl [(0, .agg #[.slice A344 ((([b4] : List (List Int)) ++ b5).take 10).length c345, .int .i64 0])] [4, 41] (L2 := [(4, .pointer (some ⟨g64, 0, none⟩)), (41, .agg #[.slice A344 ((([b4] : List (List Int)) ++ b5).take 10).length c345, .int .i64 0])]) (obs := [fun w => CellsAt w ⟨g348, 0, none⟩ [.slice A344 ((([b4] : List (List Int)) ++ b5).take 10).length c345, .int .i64 0] 0]) (by kernel_rfl) ?_ ?_
                · intro w hs; exact cellsV (k := 0) hs rfl _ 0 (Nat.le_of_ble_eq_true (by kernel_rfl)) rfl
                refine at_eff rfl rfl ?_
                refine eff_store 3 rfl rfl rfl rfl rfl rfl (.inl (Nat.le_refl _)) rfl (Nat.le_of_ble_eq_true (by kernel_rfl)) rfl ?_
                refine at_end ?_
                refine at_thn ?_
                refine at_ret ?_
                obtain rfl := Option.some.inj H
                refine at_drop (k := 0) rfl rfl ?_
                refine at_drop (k := 1) rfl rfl ?_
                refine at_done (vs := [.agg #[.slice A344 ((([b4] : List (List Int)) ++ b5).take 10).length c345, .int .i64 0]]) (obs := [fun w => CellsAt w ⟨g64, 0, none⟩ [.slice A344 ((([b4] : List (List Int)) ++ b5).take 10).length c345, .int .i64 0] 0]) (.inl rfl) [.cell 4 27] [(4, .agg #[.slice A344 ((([b4] : List (List Int)) ++ b5).take 10).length c345, .int .i64 0])] rfl (by kernel_rfl) (fun w hs => cellsV (k := 1) hs rfl _ 0 (Nat.le_of_ble_eq_true (by kernel_rfl)) rfl) (fun w hs => ⟨_, _, [s346], rfl, ⟨A344, c345, s346, rfl, rfl, ho351⟩, hle, (hs.tail (perm_at (k := 1) rfl))⟩)
              · rw [if_neg h349] at H
                refine at_cond_f rfl (decide_eq_false h349) ?_
                refine at_skip ?_
                refine at_thn ?_
                refine at_seq ?_
                refine at_ops [0, 1] rfl ?_
                refine at_seg [0] [1] rfl [(0, .agg #[.slice A344 (([b4] : List (List Int)) ++ b5).length c345, .int .i64 0])] [4, 41] (L2 := [(4, .pointer (some ⟨g64, 0, none⟩)), (41, .agg #[.slice A344 (([b4] : List (List Int)) ++ b5).length c345, .int .i64 0])]) (obs := [fun w => CellsAt w ⟨g348, 0, none⟩ [.slice A344 (([b4] : List (List Int)) ++ b5).length c345, .int .i64 0] 0]) (by kernel_rfl) ?_ ?_
                · intro w hs; exact cellsV (k := 0) hs rfl _ 0 (Nat.le_of_ble_eq_true (by kernel_rfl)) rfl
                refine at_eff rfl rfl ?_
                refine eff_store 3 rfl rfl rfl rfl rfl rfl (.inl (Nat.le_refl _)) rfl (Nat.le_of_ble_eq_true (by kernel_rfl)) rfl ?_
                refine at_end ?_
                refine at_thn ?_
                refine at_ret ?_
                obtain rfl := Option.some.inj H
                refine at_drop (k := 0) rfl rfl ?_
                refine at_drop (k := 1) rfl rfl ?_
                refine at_done (vs := [.agg #[.slice A344 (([b4] : List (List Int)) ++ b5).length c345, .int .i64 0]]) (obs := [fun w => CellsAt w ⟨g64, 0, none⟩ [.slice A344 (([b4] : List (List Int)) ++ b5).length c345, .int .i64 0] 0]) (.inl rfl) [.cell 4 27] [(4, .agg #[.slice A344 (([b4] : List (List Int)) ++ b5).length c345, .int .i64 0])] rfl (by kernel_rfl) (fun w hs => cellsV (k := 1) hs rfl _ 0 (Nat.le_of_ble_eq_true (by kernel_rfl)) rfl) (fun w hs => ⟨_, _, [s346], rfl, ⟨A344, c345, s346, rfl, rfl, hd347⟩, hle, (hs.tail (perm_at (k := 1) rfl))⟩)
            · refine at_xone (#[true, true, true, true, true, true, false, false, true, false]) (by kernel_rfl) rfl rfl ?_
              obtain ⟨i_, hi_, hz_, _, _⟩ := info27
              refine eff_alloc rfl rfl hi_ hz_ #[.slice none ([] : List (List Int)).length 0, .int .i64 0] rfl (fun g352 => ?_)
              refine at_xS (fun w hs => hs.var (k := 3) rfl 0 rfl) ?_
              refine at_x1 2 6 (#[true, true, true, true, true, true, true, false, true, false]) rfl (by kernel_rfl) (by kernel_rfl) rfl rfl ?_
              obtain ⟨h353, H⟩ := ite_some H
              obtain ⟨i_, hi_, hz_, hs_, hb_⟩ := info25
              refine eff_appendD (D := (DK.sl (Kd.int .i64) 2)) (xs := ([b4] : List (List Int))) (ys := b5) 1 2 rfl rfl rfl rfl rfl und22 und22 hi_ hz_ hs_ rfl rfl rfl hd342 ho340 rfl rfl (by rw [hb_]; omega) (by omega) (fun A354 c355 s356 hd357 => ?_)
              refine at_xX (by kernel_rfl) ?_
              refine at_xseg [7] 1 (#[true, true, true, true, true, true, true, true, true, false]) rfl (by kernel_rfl) [] [4, 5, 32] (L2 := [(4, .pointer (some ⟨g64, 0, none⟩)), (5, .pointer (some ⟨g352, 0, none⟩)), (32, .agg #[.slice A354 (([b4] : List (List Int)) ++ b5).length c355, .int .i64 0])]) (obs := []) (by kernel_rfl) (by kernel_rfl) (by kernel_rfl) (.inl (by kernel_rfl)) (fun w hS => trivial) (fun w hs => trivial) ?_
              refine at_x1 0 9 (#[true, true, true, true, true, true, true, true, true, true]) rfl (by kernel_rfl) (by kernel_rfl) rfl rfl ?_
              refine eff_store 0 rfl rfl rfl rfl rfl rfl (.inl (Nat.le_refl _)) rfl (Nat.le_of_ble_eq_true (by kernel_rfl)) rfl ?_
              refine at_xX (by kernel_rfl) ?_
              refine at_xend (by kernel_rfl) ?_
              refine at_thn ?_
              refine at_seq ?_
              refine at_seq ?_
              refine at_reg [(1, .slice A354 (([b4] : List (List Int)) ++ b5).length c355)] [4, 5, 36] (L2 := [(4, .pointer (some ⟨g64, 0, none⟩)), (5, .pointer (some ⟨g352, 0, none⟩)), (36, .bool (decide (((([b4] : List (List Int)) ++ b5).length : Int) > 10)))]) (obs := [fun w => w.cell? ⟨g352, 0, none⟩ = some (.slice A354 (([b4] : List (List Int)) ++ b5).length c355)]) (by kernel_rfl) ?_ ?_
              · intro w hs; exact hs.var (k := 0) rfl 0 rfl
              refine at_thn ?_
              by_cases h358 : ((([b4] : List (List Int)) ++ b5).length : Int) > 10
              · rw [if_pos h358] at H
                refine at_cond_t rfl (decide_eq_true h358) ?_
                refine at_ops [0, 1, 2, 3, 4] rfl ?_
                obtain ⟨h359, H⟩ := ite_some H
                have ho360 := hd357.take 10 (nat_le (by decide) h359)
                refine at_seg [0, 1, 2, 3] [4] rfl [(1, .slice A354 (([b4] : List (List Int)) ++ b5).length c355), (2, .slice A354 ((([b4] : List (List Int)) ++ b5).take 10).length c355)] [4, 5, 39, 40] (L2 := [(4, .pointer (some ⟨g64, 0, none⟩)), (5, .pointer (some ⟨g352, 0, none⟩)), (39, .slice A354 ((([b4] : List (List Int)) ++ b5).take 10).length c355), (40, .pointer (some ⟨g352, 0, none⟩))]) (obs := [fun w => w.cell? ⟨g352, 0, none⟩ = some (.slice A354 (([b4] : List (List Int)) ++ b5).length c355), fun _ => 0 ≤ (0 : Int) ∧ (0 : Int) ≤ (10 : Int) ∧ (10 : Int) ≤ ((c355 : Nat) : Int), fun _ => cutV A354 c355 1 0 10 = .slice A354 ((([b4] : List (List Int)) ++ b5).take 10).length c355]) (by kernel_rfl) ?_ ?_
                · intro w hs; exact ⟨hs.var (k := 0) rfl 0 rfl, ⟨Int.le_refl _, (by decide), Int.le_trans h359 (Int.ofNat_le.2 hd357.cap)⟩, cut_downD hd357 (nat_le (by decide) h359)⟩
                refine at_eff rfl rfl ?_
                refine eff_store 0 rfl rfl rfl rfl rfl rfl (.inl (Nat.le_refl _)) rfl (Nat.le_of_ble_eq_true (by kernel_rfl)) rfl ?_
                refine at_end ?_
                refine at_thn ?_
                refine at_seq ?_
                refine at_ops [0, 1] rfl ?_
                refine at_seg [0] [1] rfl [(0, .agg #[.slice A354 ((([b4] : List (List Int)) ++ b5).take 10).length c355, .int .i64 0])] [4, 41] (L2 := [(4, .pointer (some ⟨g64, 0, none⟩)), (41, .agg #[.slice A354 ((([b4] : List (List Int)) ++ b5).take 10).length c355, .int .i64 0])]) (obs := [fun w => CellsAt w ⟨g352, 0, none⟩ [.slice A354 ((([b4] : List (List Int)) ++ b5).take 10).length c355, .int .i64 0] 0]) (by kernel_rfl) ?_ ?_
                · intro w hs; exact cellsV (k := 0) hs rfl _ 0 (Nat.le_of_ble_eq_true (by kernel_rfl)) rfl
                refine at_eff rfl rfl ?_
                refine eff_store 3 rfl rfl rfl rfl rfl rfl (.inl (Nat.le_refl _)) rfl (Nat.le_of_ble_eq_true (by kernel_rfl)) rfl ?_
                refine at_end ?_
                refine at_thn ?_
                refine at_ret ?_
                obtain rfl := Option.some.inj H
                refine at_drop (k := 0) rfl rfl ?_
                refine at_drop (k := 1) rfl rfl ?_
                refine at_done (vs := [.agg #[.slice A354 ((([b4] : List (List Int)) ++ b5).take 10).length c355, .int .i64 0]]) (obs := [fun w => CellsAt w ⟨g64, 0, none⟩ [.slice A354 ((([b4] : List (List Int)) ++ b5).take 10).length c355, .int .i64 0] 0]) (.inl rfl) [.cell 4 27] [(4, .agg #[.slice A354 ((([b4] : List (List Int)) ++ b5).take 10).length c355, .int .i64 0])] rfl (by kernel_rfl) (fun w hs => cellsV (k := 1) hs rfl _ 0 (Nat.le_of_ble_eq_true (by kernel_rfl)) rfl) (fun w hs => ⟨_, _, [s356], rfl, ⟨A354, c355, s356, rfl, rfl, ho360⟩, hle, (hs.tail (perm_at (k := 1) rfl))⟩)
              · rw [if_neg h358] at H
                refine at_cond_f rfl (decide_eq_false h358) ?_
                refine at_skip ?_
                refine at_thn ?_
                refine at_seq ?_
                refine at_ops [0, 1] rfl ?_
                refine at_seg [0] [1] rfl [(0, .agg #[.slice A354 (([b4] : List (List Int)) ++ b5).length c355, .int .i64 0])] [4, 41] (L2 := [(4, .pointer (some ⟨g64, 0, none⟩)), (41, .agg #[.slice A354 (([b4] : List (List Int)) ++ b5).length c355, .int .i64 0])]) (obs := [fun w => CellsAt w ⟨g352, 0, none⟩ [.slice A354 (([b4] : List (List Int)) ++ b5).length c355, .int .i64 0] 0]) (by kernel_rfl) ?_ ?_
                · intro w hs; exact cellsV (k := 0) hs rfl _ 0 (Nat.le_of_ble_eq_true (by kernel_rfl)) rfl
                refine at_eff rfl rfl ?_
                refine eff_store 3 rfl rfl rfl rfl rfl rfl (.inl (Nat.le_refl _)) rfl (Nat.le_of_ble_eq_true (by kernel_rfl)) rfl ?_
                refine at_end ?_
                refine at_thn ?_
                refine at_ret ?_
                obtain rfl := Option.some.inj H
                refine at_drop (k := 0) rfl rfl ?_
                refine at_drop (k := 1) rfl rfl ?_
                refine at_done (vs := [.agg #[.slice A354 (([b4] : List (List Int)) ++ b5).length c355, .int .i64 0]]) (obs := [fun w => CellsAt w ⟨g64, 0, none⟩ [.slice A354 (([b4] : List (List Int)) ++ b5).length c355, .int .i64 0] 0]) (.inl rfl) [.cell 4 27] [(4, .agg #[.slice A354 (([b4] : List (List Int)) ++ b5).length c355, .int .i64 0])] rfl (by kernel_rfl) (fun w hs => cellsV (k := 1) hs rfl _ 0 (Nat.le_of_ble_eq_true (by kernel_rfl)) rfl) (fun w hs => ⟨_, _, [s356], rfl, ⟨A354, c355, s356, rfl, rfl, hd357⟩, hle, (hs.tail (perm_at (k := 1) rfl))⟩)
          · refine at_xone (#[true, true, false, true, true, true, false, false, true, false]) (by kernel_rfl) rfl rfl ?_
            obtain ⟨i_, hi_, hz_, _, _⟩ := info27
            refine eff_alloc rfl rfl hi_ hz_ #[.slice none ([] : List (List Int)).length 0, .int .i64 0] rfl (fun g361 => ?_)
            refine at_xS (fun w hs => hs.var (k := 3) rfl 0 rfl) ?_
            refine at_x1 3 2 (#[true, true, true, true, true, true, false, false, true, false]) rfl (by kernel_rfl) (by kernel_rfl) rfl rfl ?_
            refine eff_buildSlice (e := 25) (cells := #[.slice A278 b4.length c279]) ([b4] : List (List Int)).length rfl rfl rfl (by kernel_rfl) (fun g362 => ?_)
            have hd363 := own_lit (K := Kd.raw 1) (e := 25) (I := J333) (xs := ([[.slice A278 b4.length c279]] : List (List Value))) (css := ([[.slice A278 b4.length c279]] : List (List Value))) (cells := #[.slice A278 b4.length c279]) (b := g362) ⟨⟨rfl, rfl, rfl⟩, trivial⟩ rfl
            refine at_merge 3 0 rfl rfl rfl ?_
            replace hd363 : DOwn (DK.sl (Kd.int .i64) 2) 25 J333 (some ⟨g362, 0, none⟩ : Option Addr) (([b4] : List (List Int)).length) ([b4] : List (List Int)) (s280 ++ [(g362, .cells #[.slice A278 b4.length c279] 25 (0, 0))]) := DOwn.lit (hs := [[.slice A278 b4.length c279]]) (sis := [s280]) hd363 ⟨⟨_, _, rfl, ho281⟩, trivial⟩ (perm_lit1 _ _)
            refine at_xS (fun w hs => hs.var (k := 3) rfl 0 rfl) ?_
            refine at_x1 2 6 (#[true, true, true, true, true, true, true, false, true, false]) rfl (by kernel_rfl) (by kernel_rfl) rfl rfl ?_
            obtain ⟨h364, H⟩ := ite_some H
            obtain ⟨i_, hi_, hz_, hs_, hb_⟩ := info25
            refine eff_appendD (D := (DK.sl (Kd.int .i64) 2)) (xs := ([b4] : List (List Int))) (ys := b5) 0 2 rfl rfl rfl rfl rfl und22 und22 hi_ hz_ hs_ rfl rfl rfl hd363 ho340 rfl rfl (by rw [hb_]; omega) (by omega) (fun A365 c366 s367 hd368 => ?_)
            refine at_xX (by kernel_rfl) ?_
            refine at_xseg [7] 1 (#[true, true, true, true, true, true, true, true, true, false]) rfl (by kernel_rfl) [] [4, 5, 32] (L2 := [(4, .pointer (some ⟨g64, 0, none⟩)), (5, .pointer (some ⟨g361, 0, none⟩)), (32, .agg #[.slice A365 (([b4] : List (List Int)) ++ b5).length c366, .int .i64 0])]) (obs := []) (by kernel_rfl) (by kernel_rfl) (by kernel_rfl) (.inl (by kernel_rfl)) (fun w hS => trivial) (fun w hs => trivial) ?_
            refine at_x1 0 9 (#[true, true, true, true, true, true, true, true, true, true]) rfl (by kernel_rfl) (by kernel_rfl) rfl rfl ?_
            refine eff_store 1 rfl rfl rfl rfl rfl rfl (.inl (Nat.le_refl _)) rfl (Nat.le_of_ble_eq_true (by kernel_rfl)) rfl ?_
            refine at_xX (by kernel_rfl) ?_
            refine at_xend (by kernel_rfl) ?_
            refine at_thn ?_
            refine at_seq ?_
            refine at_seq ?_
            refine at_reg [(1, .slice A365 (([b4] : List (List Int)) ++ b5).length c366)] [4, 5, 36] (L2 := [(4, .pointer (some ⟨g64, 0, none⟩)), (5, .pointer (some ⟨g361, 0, none⟩)), (36, .bool (decide (((([b4] : List (List Int)) ++ b5).length : Int) > 10)))]) (obs := [fun w => w.cell? ⟨g361, 0, none⟩ = some (.slice A365 (([b4] : List (List Int)) ++ b5).length c366)]) (by kernel_rfl) ?_ ?_
            · intro w hs; exact hs.var (k := 1) rfl 0 rfl
            refine at_thn ?_
            by_cases h369 : ((([b4] : List (List Int)) ++ b5).length : Int) > 10
            · rw [if_pos h369] at H
              refine at_cond_t rfl (decide_eq_true h369) ?_
              refine at_ops [0, 1, 2, 3, 4] rfl ?_
              obtain ⟨h370, H⟩ := ite_some H
              have ho371 := hd368.take 10 (nat_le (by decide) h370)
              refine at_seg [0, 1, 2, 3] [4] rfl [(1, .slice A365 (([b4] : List (List Int)) ++ b5).length c366), (2, .slice A365 ((([b4] : List (List Int)) ++ b5).take 10).length c366)] [4, 5, 39, 40] (L2 := [(4, .pointer (some ⟨g64, 0, none⟩)), (5, .pointer (some ⟨g361, 0, none⟩)), (39, .slice A365 ((([b4] : List (List Int)) ++ b5).take 10).length c366), (40, .pointer (some ⟨g361, 0, none⟩))]) (obs := [fun w => w.cell? ⟨g361, 0, none⟩ = some (.slice A365 (([b4] : List (List Int)) ++ b5).length c366), fun _ => 0 ≤ (0 : Int) ∧ (0 : Int) ≤ (10 : Int) ∧ (10 : Int) ≤ ((c366 : Nat) : Int), fun _ => cutV A365 c366 1 0 10 = .slice A365 ((([b4] : List (List Int)) ++ b5).take 10).length c366]) (by kernel_rfl) ?_ ?_
              · intro w hs; exact ⟨hs.var (k := 1) rfl 0 rfl, ⟨Int.le_refl _, (by decide), Int.le_trans h370 (Int.ofNat_le.2 hd368.cap)⟩, cut_downD hd368 (nat_le (by decide) h370)⟩
              refine at_eff rfl rfl ?_
              refine eff_store 1 rfl rfl rfl rfl rfl rfl (.inl (Nat.le_refl _)) rfl (Nat.le_of_ble_eq_true (by kernel_rfl)) rfl ?_
              refine at_end ?_
              refine at_thn ?_
              refine at_seq ?_
              refine at_ops [0, 1] rfl ?_
              refine at_seg [0] [1] rfl [(0, .agg #[.slice A365 ((([b4] : List (List Int)) ++ b5).take 10).length c366, .int .i64 0])] [4, 41] (L2 := [(4, .pointer (some ⟨g64, 0, none⟩)), (41, .agg #[.slice A365 ((([b4] : List (List Int)) ++ b5).take 10).length c366, .int .i64 0])]) (obs := [fun w => CellsAt w ⟨g361, 0, none⟩ [.slice A365 ((([b4] : List (List Int)) ++ b5).take 10).length c366, .int .i64 0] 0]) (by kernel_rfl) ?_ ?_
              · intro w hs; exact cellsV (k := 1) hs rfl _ 0 (Nat.le_of_ble_eq_true (by kernel_rfl)) rfl
              refine at_eff rfl rfl ?_
              refine eff_store 3 rfl rfl rfl rfl rfl rfl (.inl (Nat.le_refl _)) rfl (Nat.le_of_ble_eq_true (by kernel_rfl)) rfl ?_
              refine at_end ?_
              refine at_thn ?_
              refine at_ret ?_
              obtain rfl := Option.some.inj H
              refine at_drop (k := 1) rfl rfl ?_
              refine at_drop (k := 1) rfl rfl ?_
              refine at_done (vs := [.agg #[.slice A365 ((([b4] : List (List Int)) ++ b5).take 10).length c366, .int .i64 0]]) (obs := [fun w => CellsAt w ⟨g64, 0, none⟩ [.slice A365 ((([b4] : List (List Int)) ++ b5).take 10).length c366, .int .i64 0] 0]) (.inl rfl) [.cell 4 27] [(4, .agg #[.slice A365 ((([b4] : List (List Int)) ++ b5).take 10).length c366, .int .i64 0])] rfl (by kernel_rfl) (fun w hs => cellsV (k := 1) hs rfl _ 0 (Nat.le_of_ble_eq_true (by kernel_rfl)) rfl) (fun w hs => ⟨_, _, [s367], rfl, ⟨A365, c366, s367, rfl, rfl, ho371⟩, hle, (hs.tail (perm_at (k := 1) rfl))⟩)
            · rw [if_neg h369] at H
              refine at_cond_f rfl (decide_eq_false h369) ?_
              refine at_skip ?_
              refine at_thn ?_
              refine at_seq ?_
              refine at_ops [0, 1] rfl ?_
              refine at_seg [0] [1] rfl [(0, .agg #[.slice A365 (([b4] : List (List Int)) ++ b5).length c366, .int .i64 0])] [4, 41] (L2 := [(4, .pointer (some ⟨g64, 0, none⟩)), (41, .agg #[.slice A365 (([b4] : List (List Int)) ++ b5).length c366, .int .i64 0])]) (obs := [fun w => CellsAt w ⟨g361, 0, none⟩ [.slice A365 (([b4] : List (List Int)) ++ b5).length c366, .int .i64 0] 0]) (by kernel_rfl) ?_ ?_
              · intro w hs; exact cellsV (k := 1) hs rfl _ 0 (Nat.le_of_ble_eq_true (by kernel_rfl)) rfl
              refine at_eff rfl rfl ?_
              refine eff_store 3 rfl rfl rfl rfl rfl rfl (.inl (Nat.le_refl _)) rfl (Nat.le_of_ble_eq_true (by kernel_rfl)) rfl ?_
              refine at_end ?_
              refine at_thn ?_
              refine at_ret ?_
              obtain rfl := Option.some.inj H
              refine at_drop (k := 1) rfl rfl ?_
              refine at_drop (k := 1) rfl rfl ?_
              refine at_done (vs := [.agg #[.slice A365 (([b4] : List (List Int)) ++ b5).length c366, .int .i64 0]]) (obs := [fun w => CellsAt w ⟨g64, 0, none⟩ [.slice A365 (([b4] : List (List Int)) ++ b5).length c366, .int .i64 0] 0]) (.inl rfl) [.cell 4 27] [(4, .agg #[.slice A365 (([b4] : List (List Int)) ++ b5).length c366, .int .i64 0])] rfl (by kernel_rfl) (fun w hs => cellsV (k := 1) hs rfl _ 0 (Nat.le_of_ble_eq_true (by kernel_rfl)) rfl) (fun w hs => ⟨_, _, [s367], rfl, ⟨A365, c366, s367, rfl, rfl, hd368⟩, hle, (hs.tail (perm_at (k := 1) rfl))⟩)
        · refine at_xone (#[true, true, false, true, true, false, false, false, true, false]) (by kernel_rfl) rfl rfl ?_
          obtain ⟨i_, hi_, hz_, _, _⟩ := info27
          refine eff_alloc rfl rfl hi_ hz_ #[.slice none ([] : List (List Int)).length 0, .int .i64 0] rfl (fun g372 => ?_)
          refine at_xS (fun w hs => hs.var (k := 2) rfl 0 rfl) ?_
          refine at_xall (fuel := 4) [2, 5] (by kernel_rfl) (by simp) (List.forall_mem_cons.2 ⟨?_, (List.forall_mem_cons.2 ⟨?_, fun _ h => nomatch h⟩)⟩)
          · refine at_xone (#[true, true, true, true, true, false, false, false, true, false]) (by kernel_rfl) rfl rfl ?_
            refine eff_buildSlice (e := 25) (cells := #[.slice A278 b4.length c279]) ([b4] : List (List Int)).length rfl rfl rfl (by kernel_rfl) (fun g373 => ?_)
            have hd374 := own_lit (K := Kd.raw 1) (e := 25) (I := J274) (xs := ([[.slice A278 b4.length c279]] : List (List Value))) (css := ([[.slice A278 b4.length c279]] : List (List Value))) (cells := #[.slice A278 b4.length c279]) (b := g373) ⟨⟨rfl, rfl, rfl⟩, trivial⟩ rfl
            refine at_merge 2 0 rfl rfl rfl ?_
            replace hd374 : DOwn (DK.sl (Kd.int .i64) 2) 25 J274 (some ⟨g373, 0, none⟩ : Option Addr) (([b4] : List (List Int)).length) ([b4] : List (List Int)) (s280 ++ [(g373, .cells #[.slice A278 b4.length c279] 25 (0, 0))]) := DOwn.lit (hs := [[.slice A278 b4.length c279]]) (sis := [s280]) hd374 ⟨⟨_, _, rfl, ho281⟩, trivial⟩ (perm_lit1 _ _)
            refine at_xS (fun w hs => hs.var (k := 2) rfl 0 rfl) ?_
            refine at_x1 3 5 (#[true, true, true, true, true, true, false, false, true, false]) rfl (by kernel_rfl) (by kernel_rfl) rfl rfl ?_
            obtain ⟨b5, H375, H⟩ := bind_some H
            have hm_ := spec_l04CopyAll.calls (I0 := J274) H375 hr58
            refine eff_call rfl rfl ok30 rfl rfl (show Meets Try.prog 30 ([.slice A56 p55.Items.length c57] : List Value).toArray _ [] _ from hm_) (Mr := ((s280 ++ [(g373, .cells #[.slice A278 b4.length c279] 25 (0, 0))]) :: [(g372, .cells #[.slice none ([] : List (List Int)).length 0, .int .i64 0] 27 (0, 0))] :: [(g63, .cells #[.slice A56 p55.Items.length c57, .int .i64 p55.At] 27 (0, 0))] :: [(g64, .cells #[.slice none ([] : List (List Int)).length 0, .int .i64 0] 27 (0, 0))] :: Fs)) (List.Perm.refl _) (fun v376 J377 M378 hq379 hJ380 => ?_)
            replace hle := hle.trans hJ380
            replace hd374 := hd374.mono hJ380
            replace hr58 := hr58.mono hJ380
            replace hr62 := hr62.mono hJ380
            obtain ⟨A381, c382, s383, rfl, rfl, ho384⟩ := hq379
            refine at_xS (fun w hs => hs.var (k := 3) rfl 0 rfl) ?_
            refine at_x1 2 6 (#[true, true, true, true, true, true, true, false, true, false]) rfl (by kernel_rfl) (by kernel_rfl) rfl rfl ?_
            obtain ⟨h385, H⟩ := ite_some H
            obtain ⟨i_, hi_, hz_, hs_, hb_⟩ := info25
            refine eff_appendD (D := (DK.sl (Kd.int .i64) 2)) (xs := ([b4] : List (List Int))) (ys := b5) 0 0 rfl rfl rfl rfl rfl und22 und22 hi_ hz_ hs_ rfl rfl rfl hd374 ho384 rfl rfl (by rw [hb_]; omega) (by omega) (fun A386 c387 s388 hd389 => ?_)
            refine at_xX (by kernel_rfl) ?_
            refine at_xseg [7] 1 (#[true, true, true, true, true, true, true, true, true, false]) rfl (by kernel_rfl) [] [4, 5, 32] (L2 := [(4, .pointer (some ⟨g64, 0, none⟩)), (5, .pointer (some ⟨g372, 0, none⟩)), (32, .agg #[.slice A386 (([b4] : List (List Int)) ++ b5).length c387, .int .i64 0])]) (obs := []) (by kernel_rfl) (by kernel_rfl) (by kernel_rfl) (.inl (by kernel_rfl)) (fun w hS => trivial) (fun w hs => trivial) ?_
            refine at_x1 0 9 (#[true, true, true, true, true, true, true, true, true, true]) rfl (by kernel_rfl) (by kernel_rfl) rfl rfl ?_
            refine eff_store 1 rfl rfl rfl rfl rfl rfl (.inl (Nat.le_refl _)) rfl (Nat.le_of_ble_eq_true (by kernel_rfl)) rfl ?_
            refine at_xX (by kernel_rfl) ?_
            refine at_xend (by kernel_rfl) ?_
            refine at_thn ?_
            refine at_seq ?_
            refine at_seq ?_
            refine at_reg [(1, .slice A386 (([b4] : List (List Int)) ++ b5).length c387)] [4, 5, 36] (L2 := [(4, .pointer (some ⟨g64, 0, none⟩)), (5, .pointer (some ⟨g372, 0, none⟩)), (36, .bool (decide (((([b4] : List (List Int)) ++ b5).length : Int) > 10)))]) (obs := [fun w => w.cell? ⟨g372, 0, none⟩ = some (.slice A386 (([b4] : List (List Int)) ++ b5).length c387)]) (by kernel_rfl) ?_ ?_
            · intro w hs; exact hs.var (k := 1) rfl 0 rfl
            refine at_thn ?_
            by_cases h390 : ((([b4] : List (List Int)) ++ b5).length : Int) > 10
            · rw [if_pos h390] at H
              refine at_cond_t rfl (decide_eq_true h390) ?_
              refine at_ops [0, 1, 2, 3, 4] rfl ?_
              obtain ⟨h391, H⟩ := ite_some H
              have ho392 := hd389.take 10 (nat_le (by decide) h391)
              refine at_seg [0, 1, 2, 3] [4] rfl [(1, .slice A386 (([b4] : List (List Int)) ++ b5).length c387), (2, .slice A386 ((([b4] : List (List Int)) ++ b5).take 10).length c387)] [4, 5, 39, 40] (L2 := [(4, .pointer (some ⟨g64, 0, none⟩)), (5, .pointer (some ⟨g372, 0, none⟩)), (39, .slice A386 ((([b4] : List (List Int)) ++ b5).take 10).length c387), (40, .pointer (some ⟨g372, 0, none⟩))]) (obs := [fun w => w.cell? ⟨g372, 0, none⟩ = some (.slice A386 (([b4] : List (List Int)) ++ b5).length c387), fun _ => 0 ≤ (0 : Int) ∧ (0 : Int) ≤ (10 : Int) ∧ (10 : Int) ≤ ((c387 : Nat) : Int), fun _ => cutV A386 c387 1 0 10 = .slice A386 ((([b4] : List (List Int)) ++ b5).take 10).length c387]) (by kernel_rfl) ?_ ?_
              · intro w hs; exact ⟨hs.var (k := 1) rfl 0 rfl, ⟨Int.le_refl _, (by decide), Int.le_trans h391 (Int.ofNat_le.2 hd389.cap)⟩, cut_downD hd389 (nat_le (by decide) h391)⟩
              refine at_eff rfl rfl ?_
              refine eff_store 1 rfl rfl rfl rfl rfl rfl (.inl (Nat.le_refl _)) rfl (Nat.le_of_ble_eq_true (by kernel_rfl)) rfl ?_
              refine at_end ?_
              refine at_thn ?_
              refine at_seq ?_
              refine at_ops [0, 1] rfl ?_
              refine at_seg [0] [1] rfl [(0, .agg #[.slice A386 ((([b4] : List (List Int)) ++ b5).take 10).length c387, .int .i64 0])] [4, 41] (L2 := [(4, .pointer (some ⟨g64, 0, none⟩)), (41, .agg #[.slice A386 ((([b4] : List (List Int)) ++ b5).take 10).length c387, .int .i64 0])]) (obs := [fun w => CellsAt w ⟨g372, 0, none⟩ [.slice A386 ((([b4] : List (List Int)) ++ b5).take 10).length c387, .int .i64 0] 0]) (by kernel_rfl) ?_ ?_
              · intro w hs; exact cellsV (k := 1) hs rfl _ 0 (Nat.le_of_ble_eq_true (by kernel_rfl)) rfl
              refine at_eff rfl rfl ?_
              refine eff_store 3 rfl rfl rfl rfl rfl rfl (.inl (Nat.le_refl _)) rfl (Nat.le_of_ble_eq_true (by kernel_rfl)) rfl ?_
              refine at_end ?_
              refine at_thn ?_
              refine at_ret ?_
              obtain rfl := Option.some.inj H
              refine at_drop (k := 1) rfl rfl ?_
              refine at_drop (k := 1) rfl rfl ?_
              refine at_done (vs := [.agg #[.slice A386 ((([b4] : List (List Int)) ++ b5).take 10).length c387, .int .i64 0]]) (obs := [fun w => CellsAt w ⟨g64, 0, none⟩ [.slice A386 ((([b4] : List (List Int)) ++ b5).take 10).length c387, .int .i64 0] 0]) (.inl rfl) [.cell 4 27] [(4, .agg #[.slice A386 ((([b4] : List (List Int)) ++ b5).take 10).length c387, .int .i64 0])] rfl (by kernel_rfl) (fun w hs => cellsV (k := 1) hs rfl _ 0 (Nat.le_of_ble_eq_true (by kernel_rfl)) rfl) (fun w hs => ⟨_, _, [s388], rfl, ⟨A386, c387, s388, rfl, rfl, ho392⟩, hle, (hs.tail (perm_at (k := 1) rfl))⟩)
            · rw [if_neg h390] at H
              refine at_cond_f rfl (decide_eq_false h390) ?_
              refine at_skip ?_
              refine at_thn ?_
              refine at_seq ?_
              refine at_ops [0, 1] rfl ?_
              refine at_seg [0] [1] rfl [(0, .agg #[.slice A386 (([b4] : List (List Int)) ++ b5).length c387, .int .i64 0])] [4, 41] (L2 := [(4, .pointer (some ⟨g64, 0, none⟩)), (41, .agg #[.slice A386 (([b4] : List (List Int)) ++ b5).length c387, .int .i64 0])]) (obs := [fun w => CellsAt w ⟨g372, 0, none⟩ [.slice A386 (([b4] : List (List Int)) ++ b5).length c387, .int .i64 0] 0]) (by kernel_rfl) ?_ ?_
              · intro w hs; exact cellsV (k := 1) hs rfl _ 0 (Nat.le_of_ble_eq_true (by kernel_rfl)) rfl
              refine at_eff rfl rfl ?_
              refine eff_store 3 rfl rfl rfl rfl rfl rfl (.inl (Nat.le_refl _)) rfl (Nat.le_of_ble_eq_true (by kernel_rfl)) rfl ?_
              refine at_end ?_
              refine at_thn ?_
              refine at_ret ?_
              obtain rfl := Option.some.inj H
              refine at_drop (k := 1) rfl rfl ?_
              refine at_drop (k := 1) rfl rfl ?_
              refine at_done (vs := [.agg #[.slice A386 (([b4] : List (List Int)) ++ b5).length c387, .int .i64 0]]) (obs := [fun w => CellsAt w ⟨g64, 0, none⟩ [.slice A386 (([b4] : List (List Int)) ++ b5).length c387, .int .i64 0] 0]) (.inl rfl) [.cell 4 27] [(4, .agg #[.slice A386 (([b4] : List (List Int)) ++ b5).length c387, .int .i64 0])] rfl (by kernel_rfl) (fun w hs => cellsV (k := 1) hs rfl _ 0 (Nat.le_of_ble_eq_true (by kernel_rfl)) rfl) (fun w hs => ⟨_, _, [s388], rfl, ⟨A386, c387, s388, rfl, rfl, hd389⟩, hle, (hs.tail (perm_at (k := 1) rfl))⟩)
          · refine at_xone (#[true, true, false, true, true, true, false, false, true, false]) (by kernel_rfl) rfl rfl ?_
            obtain ⟨b5, H393, H⟩ := bind_some H
            have hm_ := spec_l04CopyAll.calls (I0 := J274) H393 hr58
            refine eff_call rfl rfl ok30 rfl rfl (show Meets Try.prog 30 ([.slice A56 p55.Items.length c57] : List Value).toArray _ [] _ from hm_) (Mr := ([(g372, .cells #[.slice none ([] : List (List Int)).length 0, .int .i64 0] 27 (0, 0))] :: s280 :: [(g63, .cells #[.slice A56 p55.Items.length c57, .int .i64 p55.At] 27 (0, 0))] :: [(g64, .cells #[.slice none ([] : List (List Int)).length 0, .int .i64 0] 27 (0, 0))] :: Fs)) (List.Perm.refl _) (fun v394 J395 M396 hq397 hJ398 => ?_)
            replace hle := hle.trans hJ398
            replace ho281 := ho281.mono hJ398
            replace hr58 := hr58.mono hJ398
            replace hr62 := hr62.mono hJ398
            obtain ⟨A399, c400, s401, rfl, rfl, ho402⟩ := hq397
            refine at_xS (fun w hs => hs.var (k := 3) rfl 0 rfl) ?_
            refine at_x1 3 2 (#[true, true, true, true, true, true, false, false, true, false]) rfl (by kernel_rfl) (by kernel_rfl) rfl rfl ?_
            refine eff_buildSlice (e := 25) (cells := #[.slice A278 b4.length c279]) ([b4] : List (List Int)).length rfl rfl rfl (by kernel_rfl) (fun g403 => ?_)
            have hd404 := own_lit (K := Kd.raw 1) (e := 25) (I := J395) (xs := ([[.slice A278 b4.length c279]] : List (List Value))) (css := ([[.slice A278 b4.length c279]] : List (List Value))) (cells := #[.slice A278 b4.length c279]) (b := g403) ⟨⟨rfl, rfl, rfl⟩, trivial⟩ rfl
            refine at_merge 3 0 rfl rfl rfl ?_
            replace hd404 : DOwn (DK.sl (Kd.int .i64) 2) 25 J395 (some ⟨g403, 0, none⟩ : Option Addr) (([b4] : List (List Int)).length) ([b4] : List (List Int)) (s280 ++ [(g403, .cells #[.slice A278 b4.length c279] 25 (0, 0))]) := DOwn.lit (hs := [[.slice A278 b4.length c279]]) (sis := [s280]) hd404 ⟨⟨_, _, rfl, ho281⟩, trivial⟩ (perm_lit1 _ _)
            refine at_xS (fun w hs => hs.var (k := 3) rfl 0 rfl) ?_
            refine at_x1 2 6 (#[true, true, true, true, true, true, true, false, true, false]) rfl (by kernel_rfl) (by kernel_rfl) rfl rfl ?_
            obtain ⟨h405, H⟩ := ite_some H
            obtain ⟨i_, hi_, hz_, hs_, hb_⟩ := info25
            refine eff_appendD (D := (DK.sl (Kd.int .i64) 2)) (xs := ([b4] : List (List Int))) (ys := b5) 0 1 rfl rfl rfl rfl rfl und22 und22 hi_ hz_ hs_ rfl rfl rfl hd404 ho402 rfl rfl (by rw [hb_]; omega) (by omega) (fun A406 c407 s408 hd409 => ?_)
            refine at_xX (by kernel_rfl) ?_
            refine at_xseg [7] 1 (#[true, true, true, true, true, true, true, true, true, false]) rfl (by kernel_rfl) [] [4, 5, 32] (L2 := [(4, .pointer (some ⟨g64, 0, none⟩)), (5, .pointer (some ⟨g372, 0, none⟩)), (32, .agg #[.slice A406 (([b4] : List (List Int)) ++ b5).length c407, .int .i64 0])]) (obs := []) (by kernel_rfl) (by kernel_rfl) (by kernel_rfl) (.inl (by kernel_rfl)) (fun w hS => trivial) (fun w hs => trivial) ?_
            refine at_x1 0 9 (#[true, true, true, true, true, true, true, true, true, true]) rfl (by kernel_rfl) (by kernel_rfl) rfl rfl ?_
            refine eff_store 1 rfl rfl rfl rfl rfl rfl (.inl (Nat.le_refl _)) rfl (Nat.le_of_ble_eq_true (by kernel_rfl)) rfl ?_
            refine at_xX (by kernel_rfl) ?_
            refine at_xend (by kernel_rfl) ?_
            refine at_thn ?_
            refine at_seq ?_
            refine at_seq ?_
            refine at_reg [(1, .slice A406 (([b4] : List (List Int)) ++ b5).length c407)] [4, 5, 36] (L2 := [(4, .pointer (some ⟨g64, 0, none⟩)), (5, .pointer (some ⟨g372, 0, none⟩)), (36, .bool (decide (((([b4] : List (List Int)) ++ b5).length : Int) > 10)))]) (obs := [fun w => w.cell? ⟨g372, 0, none⟩ = some (.slice A406 (([b4] : List (List Int)) ++ b5).length c407)]) (by kernel_rfl) ?_ ?_
            · intro w hs; exact hs.var (k := 1) rfl 0 rfl
            refine at_thn ?_
            by_cases h410 : ((([b4] : List (List Int)) ++ b5).length : Int) > 10
            · rw [if_pos h410] at H
              refine at_cond_t rfl (decide_eq_true h410) ?_
              refine at_ops [0, 1, 2, 3, 4] rfl ?_
              obtain ⟨h411, H⟩ := ite_some H
              have ho412 := hd409.take 10 (nat_le (by decide) h411)
              refine at_seg [0, 1, 2, 3] [4] rfl [(1, .slice A406 (([b4] : List (List Int)) ++ b5).length c407), (2, .slice A406 ((([b4] : List (List Int)) ++ b5).take 10).length c407)] [4, 5, 39, 40] (L2 := [(4, .pointer (some ⟨g64, 0, none⟩)), (5, .pointer (some ⟨g372, 0, none⟩)), (39, .slice A406 ((([b4] : List (List Int)) ++ b5).take 10).length c407), (40, .pointer (some ⟨g372, 0, none⟩))]) (obs := [fun w => w.cell? ⟨g372, 0, none⟩ = some (.slice A406 (([b4] : List (List Int)) ++ b5).length c407), fun _ => 0 ≤ (0 : Int) ∧ (0 : Int) ≤ (10 : Int) ∧ (10 : Int) ≤ ((c407 : Nat) : Int), fun _ => cutV A406 c407 1 0 10 = .slice A406 ((([b4] : List (List Int)) ++ b5).take 10).length c407]) (by kernel_rfl) ?_ ?_
              · intro w hs; exact ⟨hs.var (k := 1) rfl 0 rfl, ⟨Int.le_refl _, (by decide), Int.le_trans h411 (Int.ofNat_le.2 hd409.cap)⟩, cut_downD hd409 (nat_le (by decide) h411)⟩
              refine at_eff rfl rfl ?_
              refine eff_store 1 rfl rfl rfl rfl rfl rfl (.inl (Nat.le_refl _)) rfl (Nat.le_of_ble_eq_true (by kernel_rfl)) rfl ?_
              refine at_end ?_
              refine at_thn ?_
              refine at_seq ?_
              refine at_ops [0, 1] rfl ?_
              refine at_seg [0] [1] rfl [(0, .agg #[.slice A406 ((([b4] : List (List Int)) ++ b5).take 10).length c407, .int .i64 0])] [4, 41] (L2 := [(4, .pointer (some ⟨g64, 0, none⟩)), (41, .agg #[.slice A406 ((([b4] : List (List Int)) ++ b5).take 10).length c407, .int .i64 0])]) (obs := [fun w => CellsAt w ⟨g372, 0, none⟩ [.slice A406 ((([b4] : List (List Int)) ++ b5).take 10).length c407, .int .i64 0] 0]) (by kernel_rfl) ?_ ?_
              · intro w hs; exact cellsV (k := 1) hs rfl _ 0 (Nat.le_of_ble_eq_true (by kernel_rfl)) rfl
              refine at_eff rfl rfl ?_
              refine eff_store 3 rfl rfl rfl rfl rfl rfl (.inl (Nat.le_refl _)) rfl (Nat.le_of_ble_eq_true (by kernel_rfl)) rfl ?_
              refine at_end ?_
              refine at_thn ?_
              refine at_ret ?_
              obtain rfl := Option.some.inj H
              refine at_drop (k := 1) rfl rfl ?_
              refine at_drop (k := 1) rfl rfl ?_
              refine at_done (vs := [.agg #[.slice A406 ((([b4] : List (List Int)) ++ b5).take 10).length c407, .int .i64 0]]) (obs := [fun w => CellsAt w ⟨g64, 0, none⟩ [.slice A406 ((([b4] : List (List Int)) ++ b5).take 10).length c407, .int .i64 0] 0]) (.inl rfl) [.cell 4 27] [(4, .agg #[.slice A406 ((([b4] : List (List Int)) ++ b5).take 10).length c407, .int .i64 0])] rfl (by kernel_rfl) (fun w hs => cellsV (k := 1) hs rfl _ 0 (Nat.le_of_ble_eq_true (by kernel_rfl)) rfl) (fun w hs => ⟨_, _, [s408], rfl, ⟨A406, c407, s408, rfl, rfl, ho412⟩, hle, (hs.tail (perm_at (k := 1) rfl))⟩)
            · rw [if_neg h410] at H
              refine at_cond_f rfl (decide_eq_false h410) ?_
              refine at_skip ?_
              refine at_thn ?_
              refine at_seq ?_
              refine at_ops [0, 1] rfl ?_
              refine at_seg [0] [1] rfl [(0, .agg #[.slice A406 (([b4] : List (List Int)) ++ b5).length c407, .int .i64 0])] [4, 41] (L2 := [(4, .pointer (some ⟨g64, 0, none⟩)), (41, .agg #[.slice A406 (([b4] : List (List Int)) ++ b5).length c407, .int .i64 0])]) (obs := [fun w => CellsAt w ⟨g372, 0, none⟩ [.slice A406 (([b4] : List (List Int)) ++ b5).length c407, .int .i64 0] 0]) (by kernel_rfl) ?_ ?_
              · intro w hs; exact cellsV (k := 1) hs rfl _ 0 (Nat.le_of_ble_eq_true (by kernel_rfl)) rfl
              refine at_eff rfl rfl ?_
              refine eff_store 3 rfl rfl rfl rfl rfl rfl (.inl (Nat.le_refl _)) rfl (Nat.le_of_ble_eq_true (by kernel_rfl)) rfl ?_
              refine at_end ?_
              refine at_thn ?_
              refine at_ret ?_
              obtain rfl := Option.some.inj H
              refine at_drop (k := 1) rfl rfl ?_
              refine at_drop (k := 1) rfl rfl ?_
              refine at_done (vs := [.agg #[.slice A406 (([b4] : List (List Int)) ++ b5).length c407, .int .i64 0]]) (obs := [fun w => CellsAt w ⟨g64, 0, none⟩ [.slice A406 (([b4] : List (List Int)) ++ b5).length c407, .int .i64 0] 0]) (.inl rfl) [.cell 4 27] [(4, .agg #[.slice A406 (([b4] : List (List Int)) ++ b5).length c407, .int .i64 0])] rfl (by kernel_rfl) (fun w hs => cellsV (k := 1) hs rfl _ 0 (Nat.le_of_ble_eq_true (by kernel_rfl)) rfl) (fun w hs => ⟨_, _, [s408], rfl, ⟨A406, c407, s408, rfl, rfl, hd409⟩, hle, (hs.tail (perm_at (k := 1) rfl))⟩)
      · refine at_xone (#[true, false, false, true, true, false, false, false, true, false]) (by kernel_rfl) rfl rfl ?_
        obtain ⟨i_, hi_, hz_, _, _⟩ := info27
        refine eff_alloc rfl rfl hi_ hz_ #[.slice none ([] : List (List Int)).length 0, .int .i64 0] rfl (fun g413 => ?_)
        refine at_xS (fun w hs => hs.var (k := 1) rfl 0 rfl) ?_
        refine at_x1 5 1 (#[true, true, false, true, true, false, false, false, true, false]) rfl (by kernel_rfl) (by kernel_rfl) rfl rfl ?_
        obtain ⟨b4, H414, H⟩ := bind_some H
        have hm_ := spec_l01Copy.calls (I0 := I) H414 hr62
        refine eff_call rfl rfl ok29 rfl rfl (show Meets Try.prog 29 ([.slice A60 p59.length c61] : List Value).toArray _ [] _ from hm_) (Mr := ([(g413, .cells #[.slice none ([] : List (List Int)).length 0, .int .i64 0] 27 (0, 0))] :: [(g63, .cells #[.slice A56 p55.Items.length c57, .int .i64 p55.At] 27 (0, 0))] :: [(g64, .cells #[.slice none ([] : List (List Int)).length 0, .int .i64 0] 27 (0, 0))] :: Fs)) (List.Perm.refl _) (fun v415 J416 M417 hq418 hJ419 => ?_)
        replace hle := hle.trans hJ419
        replace hr58 := hr58.mono hJ419
        replace hr62 := hr62.mono hJ419
        obtain ⟨A420, c421, s422, rfl, rfl, ho423⟩ := hq418
        refine at_xS (fun w hs => hs.var (k := 2) rfl 0 rfl) ?_
        refine at_xall (fuel := 4) [2, 5] (by kernel_rfl) (by simp) (List.forall_mem_cons.2 ⟨?_, (List.forall_mem_cons.2 ⟨?_, fun _ h => nomatch h⟩)⟩)
        · refine at_xone (#[true, true, true, true, true, false, false, false, true, false]) (by kernel_rfl) rfl rfl ?_
          refine eff_buildSlice (e := 25) (cells := #[.slice A420 b4.length c421]) ([b4] : List (List Int)).length rfl rfl rfl (by kernel_rfl) (fun g424 => ?_)
          have hd425 := own_lit (K := Kd.raw 1) (e := 25) (I := J416) (xs := ([[.slice A420 b4.length c421]] : List (List Value))) (css := ([[.slice A420 b4.length c421]] : List (List Value))) (cells := #[.slice A420 b4.length c421]) (b := g424) ⟨⟨rfl, rfl, rfl⟩, trivial⟩ rfl
          refine at_merge 1 0 rfl rfl rfl ?_
          replace hd425 : DOwn (DK.sl (Kd.int .i64) 2) 25 J416 (some ⟨g424, 0, none⟩ : Option Addr) (([b4] : List (List Int)).length) ([b4] : List (List Int)) (s422 ++ [(g424, .cells #[.slice A420 b4.length c421] 25 (0, 0))]) := DOwn.lit (hs := [[.slice A420 b4.length c421]]) (sis := [s422]) hd425 ⟨⟨_, _, rfl, ho423⟩, trivial⟩ (perm_lit1 _ _)
          refine at_xS (fun w hs => hs.var (k := 2) rfl 0 rfl) ?_
          refine at_x1 3 5 (#[true, true, true, true, true, true, false, false, true, false]) rfl (by kernel_rfl) (by kernel_rfl) rfl rfl ?_
          obtain ⟨b5, H426, H⟩ := bind_some H
          have hm_ := spec_l04CopyAll.calls (I0 := J416) H426 hr58
          refine eff_call rfl rfl ok30 rfl rfl (show Meets Try.prog 30 ([.slice A56 p55.Items.length c57] : List Value).toArray _ [] _ from hm_) (Mr := ((s422 ++ [(g424, .cells #[.slice A420 b4.length c421] 25 (0, 0))]) :: [(g413, .cells #[.slice none ([] : List (List Int)).length 0, .int .i64 0] 27 (0, 0))] :: [(g63, .cells #[.slice A56 p55.Items.length c57, .int .i64 p55.At] 27 (0, 0))] :: [(g64, .cells #[.slice none ([] : List (List Int)).length 0, .int .i64 0] 27 (0, 0))] :: Fs)) (List.Perm.refl _) (fun v427 J428 M429 hq430 hJ431 => ?_)
          replace hle := hle.trans hJ431
          replace hd425 := hd425.mono hJ431
          replace hr58 := hr58.mono hJ431
          replace hr62 := hr62.mono hJ431
          obtain ⟨A432, c433, s434, rfl, rfl, ho435⟩ := hq430
          refine at_xS (fun w hs => hs.var (k := 3) rfl 0 rfl) ?_
          refine at_x1 2 6 (#[true, true, true, true, true, true, true, false, true, false]) rfl (by kernel_rfl) (by kernel_rfl) rfl rfl ?_
          obtain ⟨h436, H⟩ := ite_some H
          obtain ⟨i_, hi_, hz_, hs_, hb_⟩ := info25
          refine eff_appendD (D := (DK.sl (Kd.int .i64) 2)) (xs := ([b4] : List (List Int))) (ys := b5) 0 0 rfl rfl rfl rfl rfl und22 und22 hi_ hz_ hs_ rfl rfl rfl hd425 ho435 rfl rfl (by rw [hb_]; omega) (by omega) (fun A437 c438 s439 hd440 => ?_)
          refine at_xX (by kernel_rfl) ?_
          refine at_xseg [7] 1 (#[true, true, true, true, true, true, true, true, true, false]) rfl (by kernel_rfl) [] [4, 5, 32] (L2 := [(4, .pointer (some ⟨g64, 0, none⟩)), (5, .pointer (some ⟨g413, 0, none⟩)), (32, .agg #[.slice A437 (([b4] : List (List Int)) ++ b5).length c438, .int .i64 0])]) (obs := []) (by kernel_rfl) (by kernel_rfl) (by kernel_rfl) (.inl (by kernel_rfl)) (fun w hS => trivial) (fun w hs => trivial) ?_
          refine at_x1 0 9 (#[true, true, true, true, true, true, true, true, true, true]) rfl (by kernel_rfl) (by kernel_rfl) rfl rfl ?_
          refine eff_store 1 rfl rfl rfl rfl rfl rfl (.inl (Nat.le_refl _)) rfl (Nat.le_of_ble_eq_true (by kernel_rfl)) rfl ?_
          refine at_xX (by kernel_rfl) ?_
          refine at_xend (by kernel_rfl) ?_
          refine at_thn ?_
          refine at_seq ?_
          refine at_seq ?_
          refine at_reg [(1, .slice A437 (([b4] : List (List Int)) ++ b5).length c438)] [4, 5, 36] (L2 := [(4, .pointer (some ⟨g64, 0, none⟩)), (5, .pointer (some ⟨g413, 0, none⟩)), (36, .bool (decide (((([b4] : List (List Int)) ++ b5).length : Int) > 10)))]) (obs := [fun w => w.cell? ⟨g413, 0, none⟩ = some (.slice A437 (([b4] : List (List Int)) ++ b5).length c438)]) (by kernel_rfl) ?_ ?_
          · intro w hs; exact hs.var (k := 1) rfl 0 rfl
          refine at_thn ?_
          by_cases h441 : ((([b4] : List (List Int)) ++ b5).length : Int) > 10
          · rw [if_pos h441] at H
            refine at_cond_t rfl (decide_eq_true h441) ?_
            refine at_ops [0, 1, 2, 3, 4] rfl ?_
            obtain ⟨h442, H⟩ := ite_some H
            have ho443 := hd440.take 10 (nat_le (by decide) h442)
            refine at_seg [0, 1, 2, 3] [4] rfl [(1, .slice A437 (([b4] : List (List Int)) ++ b5).length c438), (2, .slice A437 ((([b4] : List (List Int)) ++ b5).take 10).length c438)] [4, 5, 39, 40] (L2 := [(4, .pointer (some ⟨g64, 0, none⟩)), (5, .pointer (some ⟨g413, 0, none⟩)), (39, .slice A437 ((([b4] : List (List Int)) ++ b5).take 10).length c438), (40, .pointer (some ⟨g413, 0, none⟩))]) (obs := [fun w => w.cell? ⟨g413, 0, none⟩ = some (.slice A437 (([b4] : List (List Int)) ++ b5).length c438), fun _ => 0 ≤ (0 : Int) ∧ (0 : Int) ≤ (10 : Int) ∧ (10 : Int) ≤ ((c438 : Nat) : Int), fun _ => cutV A437 c438 1 0 10 = .slice A437 ((([b4] : List (List Int)) ++ b5).take 10).length c438]) (by kernel_rfl) ?_ ?_
            · intro w hs; exact ⟨hs.var (k := 1) rfl 0 rfl, ⟨Int.le_refl _, (by decide), Int.le_trans h442 (Int.ofNat_le.2 hd440.cap)⟩, cut_downD hd440 (nat_le (by decide) h442)⟩
            refine at_eff rfl rfl ?_
            refine eff_store 1 rfl rfl rfl rfl rfl rfl (.inl (Nat.le_refl _)) rfl (Nat.le_of_ble_eq_true (by kernel_rfl)) rfl ?_
            refine at_end ?_
            refine at_thn ?_
            refine at_seq ?_
            refine at_ops [0, 1] rfl ?_
            refine at_seg [0] [1] rfl [(0, .agg #[.slice A437 ((([b4] : List (List Int)) ++ b5).take 10).length c438, .int .i64 0])] [4, 41] (L2 := [(4, .pointer (some ⟨g64, 0, none⟩)), (41, .agg #[.slice A437 ((([b4] : List (List Int)) ++ b5).take 10).length c438, .int .i64 0])]) (obs := [fun w => CellsAt w ⟨g413, 0, none⟩ [.slice A437 ((([b4] : List (List Int)) ++ b5).take 10).length c438, .int .i64 0] 0]) (by kernel_rfl) ?_ ?_
            · intro w hs; exact cellsV (k := 1) hs rfl _ 0 (Nat.le_of_ble_eq_true (by kernel_rfl)) rfl
            refine at_eff rfl rfl ?_
            refine eff_store 3 rfl rfl rfl rfl rfl rfl (.inl (Nat.le_refl _)) rfl (Nat.le_of_ble_eq_true (by kernel_rfl)) rfl ?_
            refine at_end ?_
            refine at_thn ?_
            refine at_ret ?_
            obtain rfl := Option.some.inj H
            refine at_drop (k := 1) rfl rfl ?_
            refine at_drop (k := 1) rfl rfl ?_
            refine at_done (vs := [.agg #[.slice A437 ((([b4] : List (List Int)) ++ b5).take 10).length c438, .int .i64 0]]) (obs := [fun w => CellsAt w ⟨g64, 0, none⟩ [.slice A437 ((([b4] : List (List Int)) ++ b5).take 10).length c438, .int .i64 0] 0]) (.inl rfl) [.cell 4 27] [(4, .agg #[.slice A437 ((([b4] : List (List Int)) ++ b5).take 10).length c438, .int .i64 0])] rfl (by kernel_rfl) (fun w hs => cellsV (k := 1) hs rfl _ 0 (Nat.le_of_ble_eq_true (by kernel_rfl)) rfl) (fun w hs => ⟨_, _, [s439], rfl, ⟨A437, c438, s439, rfl, rfl, ho443⟩, hle, (hs.tail (perm_at (k := 1) rfl))⟩)
          · rw [if_neg h441] at H
            refine at_cond_f rfl (decide_eq_false h441) ?_
            refine at_skip ?_
            refine at_thn ?_
            refine at_seq ?_
            refine at_ops [0, 1] rfl ?_
            refine at_seg [0] [1] rfl [(0, .agg #[.slice A437 (([b4] : List (List Int)) ++ b5).length c438, .int .i64 0])] [4, 41] (L2 := [(4, .pointer (some ⟨g64, 0, none⟩)), (41, .agg #[.slice A437 (([b4] : List (List Int)) ++ b5).length c438, .int .i64 0])]) (obs := [fun w => CellsAt w ⟨g413, 0, none⟩ [.slice A437 (([b4] : List (List Int)) ++ b5).length c438, .int .i64 0] 0]) (by kernel_rfl) ?_ ?_
            · intro w hs; exact cellsV (k := 1) hs rfl _ 0 (Nat.le_of_ble_eq_true (by kernel_rfl)) rfl
            refine at_eff rfl rfl ?_
            refine eff_store 3 rfl rfl rfl rfl rfl rfl (.inl (Nat.le_refl _)) rfl (Nat.le_of_ble_eq_true (by kernel_rfl)) rfl ?_
            refine at_end ?_
            refine at_thn ?_
            refine at_ret ?_
            obtain rfl := Option.some.inj H
            refine at_drop (k := 1) rfl rfl ?_
            refine at_drop (k := 1) rfl rfl ?_
            refine at_done (vs := [.agg #[.slice A437 (([b4] : List (List Int)) ++ b5).length c438, .int .i64 0]]) (obs := [fun w => CellsAt w ⟨g64, 0, none⟩ [.slice A437 (([b4] : List (List Int)) ++ b5).length c438, .int .i64 0] 0]) (.inl rfl) [.cell 4 27] [(4, .agg #[.slice A437 (([b4] : List (List Int)) ++ b5).length c438, .int .i64 0])] rfl (by kernel_rfl) (fun w hs => cellsV (k := 1) hs rfl _ 0 (Nat.le_of_ble_eq_true (by kernel_rfl)) rfl) (fun w hs => ⟨_, _, [s439], rfl, ⟨A437, c438, s439, rfl, rfl, hd440⟩, hle, (hs.tail (perm_at (k := 1) rfl))⟩)
        · refine at_xone (#[true, true, false, true, true, true, false, false, true, false]) (by kernel_rfl) rfl rfl ?_
          obtain ⟨b5, H444, H⟩ := bind_some H
          have hm_ := spec_l04CopyAll.calls (I0 := J416) H444 hr58
          refine eff_call rfl rfl ok30 rfl rfl (show Meets Try.prog 30 ([.slice A56 p55.Items.length c57] : List Value).toArray _ [] _ from hm_) (Mr := (s422 :: [(g413, .cells #[.slice none ([] : List (List Int)).length 0, .int .i64 0] 27 (0, 0))] :: [(g63, .cells #[.slice A56 p55.Items.length c57, .int .i64 p55.At] 27 (0, 0))] :: [(g64, .cells #[.slice none ([] : List (List Int)).length 0, .int .i64 0] 27 (0, 0))] :: Fs)) (List.Perm.refl _) (fun v445 J446 M447 hq448 hJ449 => ?_)
          replace hle := hle.trans hJ449
          replace ho423 := ho423.mono hJ449
          replace hr58 := hr58.mono hJ449
          replace hr62 := hr62.mono hJ449
          obtain ⟨A450, c451, s452, rfl, rfl, ho453⟩ := hq448
          refine at_xS (fun w hs => hs.var (k := 3) rfl 0 rfl) ?_
          refine at_x1 3 2 (#[true, true, true, true, true, true, false, false, true, false]) rfl (by kernel_rfl) (by kernel_rfl) rfl rfl ?_
          refine eff_buildSlice (e := 25) (cells := #[.slice A420 b4.length c421]) ([b4] : List (List Int)).length rfl rfl rfl (by kernel_rfl) (fun g454 => ?_)
          have hd455 := own_lit (K := Kd.raw 1) (e := 25) (I := J446) (xs := ([[.slice A420 b4.length c421]] : List (List Value))) (css := ([[.slice A420 b4.length c421]] : List (List Value))) (cells := #[.slice A420 b4.length c421]) (b := g454) ⟨⟨rfl, rfl, rfl⟩, trivial⟩ rfl
          refine at_merge 2 0 rfl rfl rfl ?_
          replace hd455 : DOwn (DK.sl (Kd.int .i64) 2) 25 J446 (some ⟨g454, 0, none⟩ : Option Addr) (([b4] : List (List Int)).length) ([b4] : List (List Int)) (s422 ++ [(g454, .cells #[.slice A420 b4.length c421] 25 (0, 0))]) := DOwn.lit (hs := [[.slice A420 b4.length c421]]) (sis := [s422]) hd455 ⟨⟨_, _, rfl, ho423⟩, trivial⟩ (perm_lit1 _ _)
          refine at_xS (fun w hs => hs.var (k := 3) rfl 0 rfl) ?_
          refine at_x1 2 6 (#[true, true, true, true, true, true, true, false, true, false]) rfl (by kernel_rfl) (by kernel_rfl) rfl rfl ?_
          obtain ⟨h456, H⟩ := ite_some H
          obtain ⟨i_, hi_, hz_, hs_, hb_⟩ := info25
          refine eff_appendD (D := (DK.sl (Kd.int .i64) 2)) (xs := ([b4] : List (List Int))) (ys := b5) 0 1 rfl rfl rfl rfl rfl und22 und22 hi_ hz_ hs_ rfl rfl rfl hd455 ho453 rfl rfl (by rw [hb_]; omega) (by omega) (fun A457 c458 s459 hd460 => ?_)
          refine at_xX (by kernel_rfl) ?_
          refine at_xseg [7] 1 (#[true, true, true, true, true, true, true, true, true, false]) rfl (by kernel_rfl) [] [4, 5, 32] (L2 := [(4, .pointer (some ⟨g64, 0, none⟩)), (5, .pointer (some ⟨g413, 0, none⟩)), (32, .agg #[.slice A457 (([b4] : List (List Int)) ++ b5).length c458, .int .i64 0])]) (obs := []) (by kernel_rfl) (by kernel_rfl) (by kernel_rfl) (.inl (by kernel_rfl)) (fun w hS => trivial) (fun w hs => trivial) ?_
          refine at_x1 0 9 (#[true, true, true, true, true, true, true, true, true, true]) rfl (by kernel_rfl) (by kernel_rfl) rfl rfl ?_
          refine eff_store 1 rfl rfl rfl rfl rfl rfl (.inl (Nat.le_refl _)) rfl (Nat.le_of_ble_eq_true (by kernel_rfl)) rfl ?_
          refine at_xX (by kernel_rfl) ?_
          refine at_xend (by kernel_rfl) ?_
          refine at_thn ?_
          refine at_seq ?_
          refine at_seq ?_
          refine at_reg [(1, .slice A457 (([b4] : List (List Int)) ++ b5).length c458)] [4, 5, 36] (L2 := [(4, .pointer (some ⟨g64, 0, none⟩)), (5, .pointer (some ⟨g413, 0, none⟩)), (36, .bool (decide (((([b4] : List (List Int)) ++ b5).length : Int) > 10)))]) (obs := [fun w => w.cell? ⟨g413, 0, none⟩ = some (.slice A457 (([b4] : List (List Int)) ++ b5).length c458)]) (by kernel_rfl) ?_ ?_
          · intro w hs; exact hs.var (k := 1) rfl 0 rfl
          refine at_thn ?_
          by_cases h461 : ((([b4] : List (List Int)) ++ b5).length : Int) > 10
          · rw [if_pos h461] at H
            refine at_cond_t rfl (decide_eq_true h461) ?_
            refine at_ops [0, 1, 2, 3, 4] rfl ?_
            obtain ⟨h462, H⟩ := ite_some H
            have ho463 := hd460.take 10 (nat_le (by decide) h462)
            refine at_seg [0, 1, 2, 3] [4] rfl [(1, .slice A457 (([b4] : List (List Int)) ++ b5).length c458), (2, .slice A457 ((([b4] : List (List Int)) ++ b5).take 10).length c458)] [4, 5, 39, 40] (L2 := [(4, .pointer (some ⟨g64, 0, none⟩)), (5, .pointer (some ⟨g413, 0, none⟩)), (39, .slice A457 ((([b4] : List (List Int)) ++ b5).take 10).length c458), (40, .pointer (some ⟨g413, 0, none⟩))]) (obs := [fun w => w.cell? ⟨g413, 0, none⟩ = some (.slice A457 (([b4] : List (List Int)) ++ b5).length c458), fun _ => 0 ≤ (0 : Int) ∧ (0 : Int) ≤ (10 : Int) ∧ (10 : Int) ≤ ((c458 : Nat) : Int), fun _ => cutV A457 c458 1 0 10 = .slice A457 ((([b4] : List (List Int)) ++ b5).take 10).length c458]) (by kernel_rfl) ?_ ?_
            · intro w hs; exact ⟨hs.var (k := 1) rfl 0 rfl, ⟨Int.le_refl _, (by decide), Int.le_trans h462 (Int.ofNat_le.2 hd460.cap)⟩, cut_downD hd460 (nat_le (by decide) h462)⟩
            refine at_eff rfl rfl ?_
            refine eff_store 1 rfl rfl rfl rfl rfl rfl (.inl (Nat.le_refl _)) rfl (Nat.le_of_ble_eq_true (by kernel_rfl)) rfl ?_
            refine at_end ?_
            refine at_thn ?_
            refine at_seq ?_
            refine at_ops [0, 1] rfl ?_
            refine at_seg [0] [1] rfl [(0, .agg #[.slice A457 ((([b4] : List (List Int)) ++ b5).take 10).length c458, .int .i64 0])] [4, 41] (L2 := [(4, .pointer (some ⟨g64, 0, none⟩)), (41, .agg #[.slice A457 ((([b4] : List (List Int)) ++ b5).take 10).length c458, .int .i64 0])]) (obs := [fun w => CellsAt w ⟨g413, 0, none⟩ [.slice A457 ((([b4] : List (List Int)) ++ b5).take 10).length c458, .int .i64 0] 0]) (by kernel_rfl) ?_ ?_
            · intro w hs; exact cellsV (k := 1) hs rfl _ 0 (Nat.le_of_ble_eq_true (by kernel_rfl)) rfl
            refine at_eff rfl rfl ?_
            refine eff_store 3 rfl rfl rfl rfl rfl rfl (.inl (Nat.le_refl _)) rfl (Nat.le_of_ble_eq_true (by kernel_rfl)) rfl ?_
            refine at_end ?_
            refine at_thn ?_
            refine at_ret ?_
            obtain rfl := Option.some.inj H
            refine at_drop (k := 1) rfl rfl ?_
            refine at_drop (k := 1) rfl rfl ?_
            refine at_done (vs := [.agg #[.slice A457 ((([b4] : List (List Int)) ++ b5).take 10).length c458, .int .i64 0]]) (obs := [fun w => CellsAt w ⟨g64, 0, none⟩ [.slice A457 ((([b4] : List (List Int)) ++ b5).take 10).length c458, .int .i64 0] 0]) (.inl rfl) [.cell 4 27] [(4, .agg #[.slice A457 ((([b4] : List (List Int)) ++ b5).take 10).length c458, .int .i64 0])] rfl (by kernel_rfl) (fun w hs => cellsV (k := 1) hs rfl _ 0 (Nat.le_of_ble_eq_true (by kernel_rfl)) rfl) (fun w hs => ⟨_, _, [s459], rfl, ⟨A457, c458, s459, rfl, rfl, ho463⟩, hle, (hs.tail (perm_at (k := 1) rfl))⟩)
          · rw [if_neg h461] at H
            refine at_cond_f rfl (decide_eq_false h461) ?_
            refine at_skip ?_
            refine at_thn ?_
            refine at_seq ?_
            refine at_ops [0, 1] rfl ?_
            refine at_seg [0] [1] rfl [(0, .agg #[.slice A457 (([b4] : List (List Int)) ++ b5).length c458, .int .i64 0])] [4, 41] (L2 := [(4, .pointer (some ⟨g64, 0, none⟩)), (41, .agg #[.slice A457 (([b4] : List (List Int)) ++ b5).length c458, .int .i64 0])]) (obs := [fun w => CellsAt w ⟨g413, 0, none⟩ [.slice A457 (([b4] : List (List Int)) ++ b5).length c458, .int .i64 0] 0]) (by kernel_rfl) ?_ ?_
            · intro w hs; exact cellsV (k := 1) hs rfl _ 0 (Nat.le_of_ble_eq_true (by kernel_rfl)) rfl
            refine at_eff rfl rfl ?_
            refine eff_store 3 rfl rfl rfl rfl rfl rfl (.inl (Nat.le_refl _)) rfl (Nat.le_of_ble_eq_true (by kernel_rfl)) rfl ?_
            refine at_end ?_
            refine at_thn ?_
            refine at_ret ?_
            obtain rfl := Option.some.inj H
            refine at_drop (k := 1) rfl rfl ?_
            refine at_drop (k := 1) rfl rfl ?_
            refine at_done (vs := [.agg #[.slice A457 (([b4] : List (List Int)) ++ b5).length c458, .int .i64 0]]) (obs := [fun w => CellsAt w ⟨g64, 0, none⟩ [.slice A457 (([b4] : List (List Int)) ++ b5).length c458, .int .i64 0] 0]) (.inl rfl) [.cell 4 27] [(4, .agg #[.slice A457 (([b4] : List (List Int)) ++ b5).length c458, .int .i64 0])] rfl (by kernel_rfl) (fun w hs => cellsV (k := 1) hs rfl _ 0 (Nat.le_of_ble_eq_true (by kernel_rfl)) rfl) (fun w hs => ⟨_, _, [s459], rfl, ⟨A457, c458, s459, rfl, rfl, hd460⟩, hle, (hs.tail (perm_at (k := 1) rfl))⟩)
    · intro Jn67
      refine at_join (fun L I Ms => ∃ (k566 : Nat), ∃ (x565 : Bool), L = [(1, .slice A60 p59.length c61), (2, .pointer (some ⟨g63, 0, none⟩)), (4, .pointer (some ⟨g64, 0, none⟩)), (22, .bool x565)] ∧ Ms = ([(g63, .cells #[.slice A56 p55.Items.length c57, .int .i64 p55.At] 27 (0, 0))] :: [(g64, .cells #[.slice none ([] : List (List Int)).length 0, .int .i64 0] 27 (0, 0))] :: Fs) ∧ spec_RingPush_j2 k566 x565 p55 p59 = some r ∧ ImmLe I0 I ∧ k566 ≤ k ∧ Rd (Kd.slice (Kd.int .i64)) I A56 c57 p55.Items ∧ Rd (Kd.int .i64) I A60 c61 p59) ?_ ?_
      · clear H hle hr58 hr62
        intro L I Ms h_; obtain ⟨k566, x565, hL_, hM_, H, hle, hk567, hr58, hr62⟩ := h_; rw [hL_, hM_]; clear hL_ hM_ L Ms
        rcases k566 with _ | k566
        · exact (no_none H).elim
        rw [spec_RingPush_j2] at H
        by_cases h568 : x565 = true
        · rw [if_pos h568] at H
          refine at_cond_t rfl (h568) ?_
          refine at_seq ?_
          refine at_ops [0, 1, 2] rfl ?_
          refine at_seg [0] [1, 2] rfl [(0, .agg #[.slice A56 p55.Items.length c57, .int .i64 p55.At])] [4, 23] (L2 := [(4, .pointer (some ⟨g64, 0, none⟩)), (23, .agg #[.slice A56 p55.Items.length c57, .int .i64 p55.At])]) (obs := [fun w => CellsAt w ⟨g63, 0, none⟩ [.slice A56 p55.Items.length c57, .int .i64 p55.At] 0]) (by kernel_rfl) ?_ ?_
          · intro w hs; exact cellsV (k := 0) hs rfl _ 0 (Nat.le_of_ble_eq_true (by kernel_rfl)) rfl
          refine at_eff rfl rfl ?_
          obtain ⟨b6, H569, H⟩ := bind_some H
          have hm_ := spec_l04Copy.calls (I0 := I) H569 hr58
          refine eff_call rfl rfl ok28 rfl rfl (show Meets Try.prog 28 ([.agg #[.slice A56 p55.Items.length c57, .int .i64 p55.At]] : List Value).toArray _ [] _ from hm_) (Mr := ([(g63, .cells #[.slice A56 p55.Items.length c57, .int .i64 p55.At] 27 (0, 0))] :: [(g64, .cells #[.slice none ([] : List (List Int)).length 0, .int .i64 0] 27 (0, 0))] :: Fs)) (List.Perm.refl _) (fun v570 J571 M572 hq573 hJ574 => ?_)
          replace hle := hle.trans hJ574
          replace hr58 := hr58.mono hJ574
          obtain ⟨A575, c576, s577, rfl, rfl, ho578⟩ := hq573
          refine at_eff rfl rfl ?_
          refine eff_store 2 rfl rfl rfl rfl rfl rfl (.inl (Nat.le_refl _)) rfl (Nat.le_of_ble_eq_true (by kernel_rfl)) rfl ?_
          refine at_end ?_
          refine at_thn ?_
          refine at_ret ?_
          refine at_then_ret ?_
          obtain rfl := Option.some.inj H
          refine at_drop (k := 1) rfl rfl ?_
          refine at_done (vs := [.agg #[.slice A575 b6.Items.length c576, .int .i64 b6.At]]) (obs := [fun w => CellsAt w ⟨g64, 0, none⟩ [.slice A575 b6.Items.length c576, .int .i64 b6.At] 0]) (.inl rfl) [.cell 4 27] [(4, .agg #[.slice A575 b6.Items.length c576, .int .i64 b6.At])] rfl (by kernel_rfl) (fun w hs => cellsV (k := 1) hs rfl _ 0 (Nat.le_of_ble_eq_true (by kernel_rfl)) rfl) (fun w hs => ⟨_, _, [s577], rfl, ⟨A575, c576, s577, rfl, rfl, ho578⟩, hle, (hs.tail (perm_at (k := 1) rfl))⟩)
        · rw [if_neg h568] at H
          refine at_cond_f rfl (ff_of h568) ?_
          refine at_skip ?_
          refine at_thn ?_
          refine at_keep [1, 2, 4] (L2 := [(1, .slice A60 p59.length c61), (2, .pointer (some ⟨g63, 0, none⟩)), (4, .pointer (some ⟨g64, 0, none⟩))]) rfl ?_
          exact Jn67 _ _ _ ⟨_, rfl, rfl, H, hle, by omega, hr58, hr62⟩
      · intro Jn464
        refine at_ops [0, 1, 2, 3, 4, 5, 6, 7, 8, 9, 10, 11, 12] rfl ?_
        refine at_seg [0] [1, 2, 3, 4, 5, 6, 7, 8, 9, 10, 11, 12] rfl [(0, .agg #[.slice A56 p55.Items.length c57, .int .i64 p55.At])] [1, 2, 4, 10] (L2 := [(1, .slice A60 p59.length c61), (2, .pointer (some ⟨g63, 0, none⟩)), (4, .pointer (some ⟨g64, 0, none⟩)), (10, .agg #[.slice A56 p55.Items.length c57, .int .i64 p55.At])]) (obs := [fun w => CellsAt w ⟨g63, 0, none⟩ [.slice A56 p55.Items.length c57, .int .i64 p55.At] 0]) (by kernel_rfl) ?_ ?_
        · intro w hs; exact cellsV (k := 1) hs rfl _ 0 (Nat.le_of_ble_eq_true (by kernel_rfl)) rfl
        refine at_eff rfl rfl ?_
        obtain ⟨b7, H579, H⟩ := bind_some H
        have hm_ := spec_RingRight.calls (I0 := I0) H579 hr58
        refine eff_call rfl rfl ok19 rfl rfl (show Meets Try.prog 19 ([.agg #[.slice A56 p55.Items.length c57, .int .i64 p55.At]] : List Value).toArray _ [] _ from hm_) (Mr := ([(g64, .cells #[.slice none ([] : List (List Int)).length 0, .int .i64 0] 27 (0, 0))] :: [(g63, .cells #[.slice A56 p55.Items.length c57, .int .i64 p55.At] 27 (0, 0))] :: Fs)) (List.Perm.refl _) (fun v580 J581 M582 hq583 hJ584 => ?_)
        replace hle := hle.trans hJ584
        replace hr58 := hr58.mono hJ584
        replace hr62 := hr62.mono hJ584
        obtain ⟨rfl, rfl⟩ := hq583
        by_cases h585 : b7 = true
        · rw [if_pos h585] at H
          refine at_seg [2, 3, 4] [5, 6, 7, 8, 9, 10, 11, 12] rfl [(3, .bool false)] [1, 2, 4, 13, 14] (L2 := [(1, .slice A60 p59.length c61), (2, .pointer (some ⟨g63, 0, none⟩)), (4, .pointer (some ⟨g64, 0, none⟩)), (13, .bool false), (14, .slice A60 p59.length c61)]) (obs := [fun _ => (.bool (!b7) : Value) = .bool false]) (by kernel_rfl) ?_ ?_
          · intro w hs; exact congrArg Value.bool (not_ff (h585))
          refine at_eff rfl rfl ?_
          obtain ⟨b8, H586, H⟩ := bind_some H
          have hm_ := spec_PointsRight.calls (I0 := J581) H586 hr62
          refine eff_call rfl rfl ok20 rfl rfl (show Meets Try.prog 20 ([.slice A60 p59.length c61] : List Value).toArray _ [] _ from hm_) (Mr := ([(g64, .cells #[.slice none ([] : List (List Int)).length 0, .int .i64 0] 27 (0, 0))] :: [(g63, .cells #[.slice A56 p55.Items.length c57, .int .i64 p55.At] 27 (0, 0))] :: Fs)) (List.Perm.refl _) (fun v587 J588 M589 hq590 hJ591 => ?_)
          replace hle := hle.trans hJ591
          replace hr58 := hr58.mono hJ591
          replace hr62 := hr62.mono hJ591
          obtain ⟨rfl, rfl⟩ := hq590
          by_cases h592 : b8 = true
          · rw [if_pos h592] at H
            refine at_seg [6, 7, 8, 9, 10, 11, 12] [] rfl [(8, .bool false)] [1, 2, 4, 22] (L2 := [(1, .slice A60 p59.length c61), (2, .pointer (some ⟨g63, 0, none⟩)), (4, .pointer (some ⟨g64, 0, none⟩)), (22, .bool ((p59.length : Int) == 0))]) (obs := [fun _ => (.bool (!b8) : Value) = .bool false]) (by kernel_rfl) ?_ ?_
            · intro w hs; exact congrArg Value.bool (not_ff (h592))
            refine at_end ?_
            refine at_thn ?_
            refine at_perm ((perm_at (k := 1) rfl).trans ((List.Perm.refl _).cons _)) ?_
            refine at_keep [1, 2, 4, 22] (L2 := [(1, .slice A60 p59.length c61), (2, .pointer (some ⟨g63, 0, none⟩)), (4, .pointer (some ⟨g64, 0, none⟩)), (22, .bool ((p59.length : Int) == 0))]) rfl ?_
            exact Jn464 _ _ _ ⟨_, ((p59.length : Int) == 0), rfl, rfl, H, hle, by omega, hr58, hr62⟩
          · rw [if_neg h592] at H
            refine at_seg [6, 7, 8, 9, 10, 11, 12] [] rfl [(8, .bool true)] [1, 2, 4, 22] (L2 := [(1, .slice A60 p59.length c61), (2, .pointer (some ⟨g63, 0, none⟩)), (4, .pointer (some ⟨g64, 0, none⟩)), (22, .bool true)]) (obs := [fun _ => (.bool (!b8) : Value) = .bool true]) (by kernel_rfl) ?_ ?_
            · intro w hs; exact congrArg Value.bool (not_tt (ff_of h592))
            refine at_end ?_
            refine at_thn ?_
            refine at_perm ((perm_at (k := 1) rfl).trans ((List.Perm.refl _).cons _)) ?_
            refine at_keep [1, 2, 4, 22] (L2 := [(1, .slice A60 p59.length c61), (2, .pointer (some ⟨g63, 0, none⟩)), (4, .pointer (some ⟨g64, 0, none⟩)), (22, .bool true)]) rfl ?_
            exact Jn464 _ _ _ ⟨_, true, rfl, rfl, H, hle, by omega, hr58, hr62⟩
        · rw [if_neg h585] at H
          refine at_seg [2, 3, 4] [5, 6, 7, 8, 9, 10, 11, 12] rfl [(3, .bool true)] [1, 2, 4, 13, 14] (L2 := [(1, .slice A60 p59.length c61), (2, .pointer (some ⟨g63, 0, none⟩)), (4, .pointer (some ⟨g64, 0, none⟩)), (13, .bool true), (14, undef)]) (obs := [fun _ => (.bool (!b7) : Value) = .bool true]) (by kernel_rfl) ?_ ?_
          · intro w hs; exact congrArg Value.bool (not_tt (ff_of h585))
          refine at_seg [5, 6, 7, 8, 9, 10, 11, 12] [] rfl [] [1, 2, 4, 22] (L2 := [(1, .slice A60 p59.length c61), (2, .pointer (some ⟨g63, 0, none⟩)), (4, .pointer (some ⟨g64, 0, none⟩)), (22, .bool true)]) (obs := []) (by kernel_rfl) ?_ ?_
          · intro w hs; exact trivial
          refine at_end ?_
          refine at_thn ?_
          refine at_perm ((perm_at (k := 1) rfl).trans ((List.Perm.refl _).cons _)) ?_
          refine at_keep [1, 2, 4, 22] (L2 := [(1, .slice A60 p59.length c61), (2, .pointer (some ⟨g63, 0, none⟩)), (4, .pointer (some ⟨g64, 0, none⟩)), (22, .bool true)]) rfl ?_
          exact Jn464 _ _ _ ⟨_, true, rfl, rfl, H, hle, by omega, hr58, hr62⟩
end Go.Proofs.Ytabdhegmepaeiaa
