import Derived.Test.YtocfakbgefdgkaaG5
namespace Go.Proofs.Ytocfakbgefdgkaa
open Go Eng
set_option linter.unusedVariables false
set_option linter.unusedSimpArgs false
/-! ### loop.example/g00146/spec.RingPush: function 13 -/
mutual
def spec_RingPush_j2 : Nat → Bool → T_impl_Ring → (List Int) → Option T_impl_Ring
  | 0, _, _, _ => none
  | k + 1, x576, p38, p42 => if x576 = true then ((spec_l04Copy k p38).bind fun b6 => (some b6)) else (spec_RingPush_j0 k p38 p42)
def spec_RingPush_j0 : Nat → T_impl_Ring → (List Int) → Option T_impl_Ring
  | 0, _, _ => none
  | k + 1, p38, p42 => (spec_l01Copy p42).bind fun b4 => ((spec_l04CopyAll k p38.Items).bind fun b5 => (if ([b4] : List (List Int)).length + b5.length ≤ 5864062014805 then (if ((([b4] : List (List Int)) ++ b5).length : Int) > 10 then (if 10 ≤ ((([b4] : List (List Int)) ++ b5).length : Int) then (some (⟨(([b4] : List (List Int)) ++ b5).take 10, 0⟩ : T_impl_Ring)) else none) else (some (⟨(([b4] : List (List Int)) ++ b5), 0⟩ : T_impl_Ring))) else none))
end
def spec_RingPush (k : Nat) (p38 : T_impl_Ring) (p42 : List Int) : Option T_impl_Ring := if (p42.length : Int) > 400 then (some (⟨([] : List (List Int)), 0⟩ : T_impl_Ring)) else ((spec_RingRight k p38).bind fun b7 => (if b7 = true then ((spec_PointsRight k p42).bind fun b8 => (if b8 = true then (spec_RingPush_j2 k ((p42.length : Int) == 0) p38 p42) else (spec_RingPush_j2 k true p38 p42))) else (spec_RingPush_j2 k true p38 p42)))
set_option maxHeartbeats 4000000 in
set_option maxRecDepth 100000 in
theorem spec_RingPush.calls {k : Nat} {p38 : T_impl_Ring} {p42 : List Int} {r : T_impl_Ring} {I0 : Imm} {A39 : Option Addr} {c40 : Nat} {A43 : Option Addr} {c44 : Nat} (H : spec_RingPush k p38 p42 = some r) (hr41 : Rd (Kd.slice (Kd.int .i64)) I0 A39 c40 p38.Items) (hr45 : Rd (Kd.int .i64) I0 A43 c44 p42) :
    Meets Try.prog 13 ([.agg #[.slice A39 p38.Items.length c40, .int .i64 p38.At], .slice A43 p42.length c44] : List Value).toArray I0 [] (fun v J M => ∃ (A_1 : Option Addr) (c_2 : Nat) (s_3 : Seg), v = .agg #[.slice A_1 r.Items.length c_2, .int .i64 r.At] ∧ M = [s_3] ∧ Own (Kd.slice (Kd.int .i64)) 23 J A_1 c_2 r.Items s_3) := by
  have hle := ImmLe.refl I0
  unfold spec_RingPush at H
  refine fn_intro (fn := Try.f13) 42 Try.func13 rfl rfl rfl (fun E Fs => ?_)
  refine at_seq ?_
  refine at_ops [0, 1] rfl ?_
  refine at_eff rfl rfl ?_
  refine eff_box rfl rfl rfl #[.slice A39 p38.Items.length c40, .int .i64 p38.At] rfl (fun g46 => ?_)
  refine at_eff rfl rfl ?_
  obtain ⟨i_, hi_, hz_, _, _⟩ := info38
  refine eff_alloc rfl rfl hi_ hz_ #[.slice none ([] : List (List Int)).length 0, .int .i64 0] rfl (fun g47 => ?_)
  refine at_end ?_
  refine at_thn ?_
  refine at_seq ?_
  refine at_seq ?_
  refine at_reg [] [1, 2, 4, 8] (L2 := [(1, .slice A43 p42.length c44), (2, .pointer (some ⟨g46, 0, none⟩)), (4, .pointer (some ⟨g47, 0, none⟩)), (8, .bool (decide ((p42.length : Int) > 400)))]) (obs := []) (by kernel_rfl) ?_ ?_
  · intro w hs; exact trivial
  refine at_thn ?_
  by_cases h48 : (p42.length : Int) > 400
  · rw [if_pos h48] at H
    refine at_cond_t rfl (decide_eq_true h48) ?_
    refine at_seq ?_
    refine at_ops [0, 1] rfl ?_
    refine at_seg [0] [1] rfl [] [4, 9] (L2 := [(4, .pointer (some ⟨g47, 0, none⟩)), (9, .agg #[.slice none ([] : List (List Int)).length 0, .int .i64 0])]) (obs := []) (by kernel_rfl) ?_ ?_
    · intro w hs; exact trivial
    refine at_eff rfl rfl ?_
    refine eff_store 0 rfl rfl rfl rfl rfl rfl (.inl (Nat.le_refl _)) rfl (Nat.le_of_ble_eq_true (by kernel_rfl)) rfl ?_
    refine at_end ?_
    refine at_thn ?_
    refine at_ret ?_
    refine at_then_ret ?_
    refine at_nilseg ?_
    have ho49 := Own.nil (Kd.slice (Kd.int .i64)) 23 I0
    obtain rfl := Option.some.inj H
    refine at_drop (k := 2) rfl rfl ?_
    refine at_done (vs := [.agg #[.slice none ([] : List (List Int)).length 0, .int .i64 0]]) (obs := [fun w => CellsAt w ⟨g47, 0, none⟩ [.slice none ([] : List (List Int)).length 0, .int .i64 0] 0]) (.inl rfl) [.cell 4 38] [(4, .agg #[.slice none ([] : List (List Int)).length 0, .int .i64 0])] rfl (by kernel_rfl) (fun w hs => cellsV (k := 1) hs rfl _ 0 (Nat.le_of_ble_eq_true (by kernel_rfl)) rfl) (fun w hs => ⟨_, _, [[]], rfl, ⟨none, 0, [], rfl, rfl, ho49⟩, hle, (hs.tail (perm_at (k := 1) rfl))⟩)
  · rw [if_neg h48] at H
    refine at_cond_f rfl (decide_eq_false h48) ?_
    refine at_skip ?_
    refine at_thn ?_
    refine at_join (fun L I Ms => ∃ (k151 : Nat), L = [(1, .slice A43 p42.length c44), (2, .pointer (some ⟨g46, 0, none⟩)), (4, .pointer (some ⟨g47, 0, none⟩))] ∧ Ms = ([(g46, .cells #[.slice A39 p38.Items.length c40, .int .i64 p38.At] 38 (0, 0))] :: [(g47, .cells #[.slice none ([] : List (List Int)).length 0, .int .i64 0] 38 (0, 0))] :: Fs) ∧ spec_RingPush_j0 k151 p38 p42 = some r ∧ ImmLe I0 I ∧ k151 ≤ k ∧ Rd (Kd.slice (Kd.int .i64)) I A39 c40 p38.Items ∧ Rd (Kd.int .i64) I A43 c44 p42) ?_ ?_
    · clear H hle hr41 hr45
      intro L I Ms h_; obtain ⟨k151, hL_, hM_, H, hle, hk152, hr41, hr45⟩ := h_; rw [hL_, hM_]; clear hL_ hM_ L Ms
      rcases k151 with _ | k151
      · exact (no_none H).elim
      rw [spec_RingPush_j0] at H
      refine at_seq ?_
      refine at_x hmo (fun w => w.cell? ⟨g46, 0, none⟩ = some (.slice A39 p38.Items.length c40)) [6, 9] ?_
      refine at_xseg [0, 3, 4] 7 (#[true, false, false, true, true, false, false, false, false, false]) rfl (by kernel_rfl) [(4, .slice A39 p38.Items.length c40)] [4, 25, 29] (L2 := [(4, .pointer (some ⟨g47, 0, none⟩)), (25, .slice A43 p42.length c44), (29, .slice A39 p38.Items.length c40)]) (obs := [fun w => w.cell? ⟨g46, 0, none⟩ = some (.slice A39 p38.Items.length c40)]) (by kernel_rfl) (by kernel_rfl) (by kernel_rfl) (.inr fun w hs => hs.var (k := 0) rfl 0 rfl) (fun w hS => hS) (fun w hs => hs.var (k := 0) rfl 0 rfl) ?_
      refine at_xall (fuel := 6) [1, 8] (by kernel_rfl) (by simp) (List.forall_mem_cons.2 ⟨?_, (List.forall_mem_cons.2 ⟨?_, fun _ h => nomatch h⟩)⟩)
      · refine at_xone (#[true, true, false, true, true, false, false, false, false, false]) (by kernel_rfl) rfl rfl ?_
        obtain ⟨b4, H255, H⟩ := bind_some H
        have hm_ := spec_l01Copy.calls (I0 := I) H255 hr45
        refine eff_call rfl rfl ok43 rfl rfl (show Meets Try.prog 43 ([.slice A43 p42.length c44] : List Value).toArray _ [] _ from hm_) (Mr := ([(g46, .cells #[.slice A39 p38.Items.length c40, .int .i64 p38.At] 38 (0, 0))] :: [(g47, .cells #[.slice none ([] : List (List Int)).length 0, .int .i64 0] 38 (0, 0))] :: Fs)) (List.Perm.refl _) (fun v256 J257 M258 hq259 hJ260 => ?_)
        replace hle := hle.trans hJ260
        replace hr41 := hr41.mono hJ260
        replace hr45 := hr45.mono hJ260
        obtain ⟨A261, c262, s263, rfl, rfl, ho264⟩ := hq259
        refine at_xS (fun w hs => hs.var (k := 1) rfl 0 rfl) ?_
        refine at_xall (fuel := 5) [2, 5, 8] (by kernel_rfl) (by simp) (List.forall_mem_cons.2 ⟨?_, (List.forall_mem_cons.2 ⟨?_, (List.forall_mem_cons.2 ⟨?_, fun _ h => nomatch h⟩)⟩)⟩)
        · refine at_xone (#[true, true, true, true, true, false, false, false, false, false]) (by kernel_rfl) rfl rfl ?_
          refine at_freeze (k := 0) rfl rfl (fun J265 hJ266 hin267 => ?_)
          replace hle := hle.trans hJ266
          replace ho264 := ho264.mono hJ266
          replace hr41 := hr41.mono hJ266
          replace hr45 := hr45.mono hJ266
          have hr268 := ho264.rd (ImmLe.refl _) hin267
          refine eff_buildSlice (e := 23) (cells := #[.slice A261 b4.length c262]) ([b4] : List (List Int)).length rfl rfl rfl (by kernel_rfl) (fun g269 => ?_)
          have ho270 := own_lit (K := (Kd.slice (Kd.int .i64))) (e := 23) (I := J265) (xs := ([b4] : List (List Int))) (css := [[.slice A261 b4.length c262]]) (cells := #[.slice A261 b4.length c262]) (b := g269) ⟨⟨A261, c262, rfl, hr268⟩, trivial⟩ rfl
          refine at_xS (fun w hs => hs.var (k := 1) rfl 0 rfl) ?_
          refine at_xall (fuel := 4) [5, 8] (by kernel_rfl) (by simp) (List.forall_mem_cons.2 ⟨?_, (List.forall_mem_cons.2 ⟨?_, fun _ h => nomatch h⟩)⟩)
          · refine at_xone (#[true, true, true, true, true, true, false, false, false, false]) (by kernel_rfl) rfl rfl ?_
            obtain ⟨b5, H271, H⟩ := bind_some H
            have hm_ := spec_l04CopyAll.calls (I0 := J265) H271 hr41
            refine eff_call rfl rfl ok44 rfl rfl (show Meets Try.prog 44 ([.slice A39 p38.Items.length c40] : List Value).toArray _ [] _ from hm_) (Mr := ([(g269, .cells #[.slice A261 b4.length c262] 23 (0, 0))] :: [(g46, .cells #[.slice A39 p38.Items.length c40, .int .i64 p38.At] 38 (0, 0))] :: [(g47, .cells #[.slice none ([] : List (List Int)).length 0, .int .i64 0] 38 (0, 0))] :: Fs)) (List.Perm.refl _) (fun v272 J273 M274 hq275 hJ276 => ?_)
            replace hle := hle.trans hJ276
            replace ho270 := ho270.mono hJ276
            replace hr268 := hr268.mono hJ276
            replace hr41 := hr41.mono hJ276
            replace hr45 := hr45.mono hJ276
            obtain ⟨A277, c278, s279, rfl, rfl, ho280⟩ := hq275
            refine at_xS (fun w hs => hs.var (k := 2) rfl 0 rfl) ?_
            refine at_xall (fuel := 3) [6, 8] (by kernel_rfl) (by simp) (List.forall_mem_cons.2 ⟨?_, (List.forall_mem_cons.2 ⟨?_, fun _ h => nomatch h⟩)⟩)
            · refine at_xone (#[true, true, true, true, true, true, true, false, false, false]) (by kernel_rfl) rfl rfl ?_
              obtain ⟨h281, H⟩ := ite_some H
              obtain ⟨i_, hi_, hz_, hs_, hb_⟩ := info23
              refine eff_append (K := (Kd.slice (Kd.int .i64))) (xs := ([b4] : List (List Int))) (ys := b5) 1 rfl rfl rfl rfl rfl und34 und34 hi_ hz_ hs_ rfl rfl rfl ho270 rfl (fun w hs => ho280.rowAt (k := 0) hs rfl) (by rw [hb_]; omega) (by omega) (fun A282 c283 s284 ho285 => ?_)
              refine at_xX (by kernel_rfl) ?_
              refine at_xseg [7] 2 (#[true, true, true, true, true, true, true, true, false, false]) rfl (by kernel_rfl) [] [4, 32] (L2 := [(4, .pointer (some ⟨g47, 0, none⟩)), (32, .agg #[.slice A282 (([b4] : List (List Int)) ++ b5).length c283, .int .i64 0])]) (obs := []) (by kernel_rfl) (by kernel_rfl) (by kernel_rfl) (.inl (by kernel_rfl)) (fun w hS => trivial) (fun w hs => trivial) ?_
              refine at_x1 1 8 (#[true, true, true, true, true, true, true, true, true, false]) rfl (by kernel_rfl) (by kernel_rfl) rfl rfl ?_
              obtain ⟨i_, hi_, hz_, _, _⟩ := info38
              refine eff_alloc rfl rfl hi_ hz_ #[.slice none ([] : List (List Int)).length 0, .int .i64 0] rfl (fun g286 => ?_)
              refine at_xX (by kernel_rfl) ?_
              refine at_x1 0 9 (#[true, true, true, true, true, true, true, true, true, true]) rfl (by kernel_rfl) (by kernel_rfl) rfl rfl ?_
              refine eff_store 0 rfl rfl rfl rfl rfl rfl (.inl (Nat.le_refl _)) rfl (Nat.le_of_ble_eq_true (by kernel_rfl)) rfl ?_
              refine at_xX (by kernel_rfl) ?_
              refine at_xend (by kernel_rfl) ?_
              refine at_thn ?_
              refine at_seq ?_
              refine at_seq ?_
              refine at_reg [(1, .slice A282 (([b4] : List (List Int)) ++ b5).length c283)] [4, 5, 36] (L2 := [(4, .pointer (some ⟨g47, 0, none⟩)), (5, .pointer (some ⟨g286, 0, none⟩)), (36, .bool (decide (((([b4] : List (List Int)) ++ b5).length : Int) > 10)))]) (obs := [fun w => w.cell? ⟨g286, 0, none⟩ = some (.slice A282 (([b4] : List (List Int)) ++ b5).length c283)]) (by kernel_rfl) ?_ ?_
              · intro w hs; exact hs.var (k := 0) rfl 0 rfl
              refine at_thn ?_
              by_cases h287 : ((([b4] : List (List Int)) ++ b5).length : Int) > 10
              · rw [if_pos h287] at H
                refine at_cond_t rfl (decide_eq_true h287) ?_
                refine at_ops [0, 1, 2, 3, 4] rfl ?_
                obtain ⟨h288, H⟩ := ite_some H
                have ho289 := ho285.take 10 (nat_le (by decide) h288)
                refine at_seg [0, 1, 2, 3] [4] rfl [(1, .slice A282 (([b4] : List (List Int)) ++ b5).length c283), (2, .slice A282 ((([b4] : List (List Int)) ++ b5).take 10).length c283)] [4, 5, 39, 40] (L2 := [(4, .pointer (some ⟨g47, 0, none⟩)), (5, .pointer (some ⟨g286, 0, none⟩)), (39, .slice A282 ((([b4] : List (List Int)) ++ b5).take 10).length c283), (40, .pointer (some ⟨g286, 0, none⟩))]) (obs := [fun w => w.cell? ⟨g286, 0, none⟩ = some (.slice A282 (([b4] : List (List Int)) ++ b5).length c283), fun _ => 0 ≤ (0 : Int) ∧ (0 : Int) ≤ (10 : Int) ∧ (10 : Int) ≤ ((c283 : Nat) : Int), fun _ => cutV A282 c283 1 0 10 = .slice A282 ((([b4] : List (List Int)) ++ b5).take 10).length c283]) (by kernel_rfl) ?_ ?_
                · intro w hs; exact ⟨hs.var (k := 0) rfl 0 rfl, ⟨Int.le_refl _, (by decide), Int.le_trans h288 (Int.ofNat_le.2 ho285.cap)⟩, cut_own ho285 (nat_le (by decide) h288)⟩
                refine at_eff rfl rfl ?_
                refine eff_store 0 rfl rfl rfl rfl rfl rfl (.inl (Nat.le_refl _)) rfl (Nat.le_of_ble_eq_true (by kernel_rfl)) rfl ?_
                refine at_end ?_
                refine at_thn ?_
                refine at_seq ?_
                refine at_ops [0, 1] rfl ?_
                refine at_seg [0] [1] rfl [(0, .agg #[.slice A282 ((([b4] : List (List Int)) ++ b5).take 10).length c283, .int .i64 0])] [4, 41] (L2 := [(4, .pointer (some ⟨g47, 0, none⟩)), (41, .agg #[.slice A282 ((([b4] : List (List Int)) ++ b5).take 10).length c283, .int .i64 0])]) (obs := [fun w => CellsAt w ⟨g286, 0, none⟩ [.slice A282 ((([b4] : List (List Int)) ++ b5).take 10).length c283, .int .i64 0] 0]) (by kernel_rfl) ?_ ?_
                · intro w hs; exact cellsV (k := 0) hs rfl _ 0 (Nat.le_of_ble_eq_true (by kernel_rfl)) rfl
                refine at_eff rfl rfl ?_
                refine eff_store 4 rfl rfl rfl rfl rfl rfl (.inl (Nat.le_refl _)) rfl (Nat.le_of_ble_eq_true (by kernel_rfl)) rfl ?_
                refine at_end ?_
                refine at_thn ?_
                refine at_ret ?_
                obtain rfl := Option.some.inj H
                refine at_drop (k := 0) rfl rfl ?_
                refine at_drop (k := 0) rfl rfl ?_
                refine at_drop (k := 1) rfl rfl ?_
                refine at_done (vs := [.agg #[.slice A282 ((([b4] : List (List Int)) ++ b5).take 10).length c283, .int .i64 0]]) (obs := [fun w => CellsAt w ⟨g47, 0, none⟩ [.slice A282 ((([b4] : List (List Int)) ++ b5).take 10).length c283, .int .i64 0] 0]) (.inl rfl) [.cell 4 38] [(4, .agg #[.slice A282 ((([b4] : List (List Int)) ++ b5).take 10).length c283, .int .i64 0])] rfl (by kernel_rfl) (fun w hs => cellsV (k := 1) hs rfl _ 0 (Nat.le_of_ble_eq_true (by kernel_rfl)) rfl) (fun w hs => ⟨_, _, [s284], rfl, ⟨A282, c283, s284, rfl, rfl, ho289⟩, hle, (hs.tail (perm_at (k := 1) rfl))⟩)
              · rw [if_neg h287] at H
                refine at_cond_f rfl (decide_eq_false h287) ?_
                refine at_skip ?_
                refine at_thn ?_
                refine at_seq ?_
                refine at_ops [0, 1] rfl ?_
                refine at_seg [0] [1] rfl [(0, .agg #[.slice A282 (([b4] : List (List Int)) ++ b5).length c283, .int .i64 0])] [4, 41] (L2 := [(4, .pointer (some ⟨g47, 0, none⟩)), (41, .agg #[.slice A282 (([b4] : List (List Int)) ++ b5).length c283, .int .i64 0])]) (obs := [fun w => CellsAt w ⟨g286, 0, none⟩ [.slice A282 (([b4] : List (List Int)) ++ b5).length c283, .int .i64 0] 0]) (by kernel_rfl) ?_ ?_
                · intro w hs; exact cellsV (k := 0) hs rfl _ 0 (Nat.le_of_ble_eq_true (by kernel_rfl)) rfl
                refine at_eff rfl rfl ?_
                refine eff_store 4 rfl rfl rfl rfl rfl rfl (.inl (Nat.le_refl _)) rfl (Nat.le_of_ble_eq_true (by kernel_rfl)) rfl ?_
                refine at_end ?_
                refine at_thn ?_
                refine at_ret ?_
                obtain rfl := Option.some.inj H
                refine at_drop (k := 0) rfl rfl ?_
                refine at_drop (k := 0) rfl rfl ?_
                refine at_drop (k := 1) rfl rfl ?_
                refine at_done (vs := [.agg #[.slice A282 (([b4] : List (List Int)) ++ b5).length c283, .int .i64 0]]) (obs := [fun w => CellsAt w ⟨g47, 0, none⟩ [.slice A282 (([b4] : List (List Int)) ++ b5).length c283, .int .i64 0] 0]) (.inl rfl) [.cell 4 38] [(4, .agg #[.slice A282 (([b4] : List (List Int)) ++ b5).length c283, .int .i64 0])] rfl (by kernel_rfl) (fun w hs => cellsV (k := 1) hs rfl _ 0 (Nat.le_of_ble_eq_true (by kernel_rfl)) rfl) (fun w hs => ⟨_, _, [s284], rfl, ⟨A282, c283, s284, rfl, rfl, ho285⟩, hle, (hs.tail (perm_at (k := 1) rfl))⟩)
            · refine at_xone (#[true, true, true, true, true, true, false, false, true, false]) (by kernel_rfl) rfl rfl ?_
              obtain ⟨i_, hi_, hz_, _, _⟩ := info38
              refine eff_alloc rfl rfl hi_ hz_ #[.slice none ([] : List (List Int)).length 0, .int .i64 0] rfl (fun g290 => ?_)
              refine at_xS (fun w hs => hs.var (k := 3) rfl 0 rfl) ?_
              refine at_x1 2 6 (#[true, true, true, true, true, true, true, false, true, false]) rfl (by kernel_rfl) (by kernel_rfl) rfl rfl ?_
              obtain ⟨h291, H⟩ := ite_some H
              obtain ⟨i_, hi_, hz_, hs_, hb_⟩ := info23
              refine eff_append (K := (Kd.slice (Kd.int .i64))) (xs := ([b4] : List (List Int))) (ys := b5) 2 rfl rfl rfl rfl rfl und34 und34 hi_ hz_ hs_ rfl rfl rfl ho270 rfl (fun w hs => ho280.rowAt (k := 1) hs rfl) (by rw [hb_]; omega) (by omega) (fun A292 c293 s294 ho295 => ?_)
              refine at_xX (by kernel_rfl) ?_
              refine at_xseg [7] 1 (#[true, true, true, true, true, true, true, true, true, false]) rfl (by kernel_rfl) [] [4, 5, 32] (L2 := [(4, .pointer (some ⟨g47, 0, none⟩)), (5, .pointer (some ⟨g290, 0, none⟩)), (32, .agg #[.slice A292 (([b4] : List (List Int)) ++ b5).length c293, .int .i64 0])]) (obs := []) (by kernel_rfl) (by kernel_rfl) (by kernel_rfl) (.inl (by kernel_rfl)) (fun w hS => trivial) (fun w hs => trivial) ?_
              refine at_x1 0 9 (#[true, true, true, true, true, true, true, true, true, true]) rfl (by kernel_rfl) (by kernel_rfl) rfl rfl ?_
              refine eff_store 0 rfl rfl rfl rfl rfl rfl (.inl (Nat.le_refl _)) rfl (Nat.le_of_ble_eq_true (by kernel_rfl)) rfl ?_
              refine at_xX (by kernel_rfl) ?_
              refine at_xend (by kernel_rfl) ?_
              refine at_thn ?_
              refine at_seq ?_
              refine at_seq ?_
              refine at_reg [(1, .slice A292 (([b4] : List (List Int)) ++ b5).length c293)] [4, 5, 36] (L2 := [(4, .pointer (some ⟨g47, 0, none⟩)), (5, .pointer (some ⟨g290, 0, none⟩)), (36, .bool (decide (((([b4] : List (List Int)) ++ b5).length : Int) > 10)))]) (obs := [fun w => w.cell? ⟨g290, 0, none⟩ = some (.slice A292 (([b4] : List (List Int)) ++ b5).length c293)]) (by kernel_rfl) ?_ ?_
              · intro w hs; exact hs.var (k := 0) rfl 0 rfl
              refine at_thn ?_
              by_cases h296 : ((([b4] : List (List Int)) ++ b5).length : Int) > 10
              · rw [if_pos h296] at H
                refine at_cond_t rfl (decide_eq_true h296) ?_
                refine at_ops [0, 1, 2, 3, 4] rfl ?_
                obtain ⟨h297, H⟩ := ite_some H
                have ho298 := ho295.take 10 (nat_le (by decide) h297)
                refine at_seg [0, 1, 2, 3] [4] rfl [(1, .slice A292 (([b4] : List (List Int)) ++ b5).length c293), (2, .slice A292 ((([b4] : List (List Int)) ++ b5).take 10).length c293)] [4, 5, 39, 40] (L2 := [(4, .pointer (some ⟨g47, 0, none⟩)), (5, .pointer (some ⟨g290, 0, none⟩)), (39, .slice A292 ((([b4] : List (List Int)) ++ b5).take 10).length c293), (40, .pointer (some ⟨g290, 0, none⟩))]) (obs := [fun w => w.cell? ⟨g290, 0, none⟩ = some (.slice A292 (([b4] : List (List Int)) ++ b5).length c293), fun _ => 0 ≤ (0 : Int) ∧ (0 : Int) ≤ (10 : Int) ∧ (10 : Int) ≤ ((c293 : Nat) : Int), fun _ => cutV A292 c293 1 0 10 = .slice A292 ((([b4] : List (List Int)) ++ b5).take 10).length c293]) (by kernel_rfl) ?_ ?_
                · intro w hs; exact ⟨hs.var (k := 0) rfl 0 rfl, ⟨Int.le_refl _, (by decide), Int.le_trans h297 (Int.ofNat_le.2 ho295.cap)⟩, cut_own ho295 (nat_le (by decide) h297)⟩
                refine at_eff rfl rfl ?_
                refine eff_store 0 rfl rfl rfl rfl rfl rfl (.inl (Nat.le_refl _)) rfl (Nat.le_of_ble_eq_true (by kernel_rfl)) rfl ?_
                refine at_end ?_
                refine at_thn ?_
                refine at_seq ?_
                refine at_ops [0, 1] rfl ?_
                refine at_seg [0] [1] rfl [(0, .agg #[.slice A292 ((([b4] : List (List Int)) ++ b5).take 10).length c293, .int .i64 0])] [4, 41] (L2 := [(4, .pointer (some ⟨g47, 0, none⟩)), (41, .agg #[.slice A292 ((([b4] : List (List Int)) ++ b5).take 10).length c293, .int .i64 0])]) (obs := [fun w => CellsAt w ⟨g290, 0, none⟩ [.slice A292 ((([b4] : List (List Int)) ++ b5).take 10).length c293, .int .i64 0] 0]) (by kernel_rfl) ?_ ?_
                · intro w hs; exact cellsV (k := 0) hs rfl _ 0 (Nat.le_of_ble_eq_true (by kernel_rfl)) rfl
                refine at_eff rfl rfl ?_
                refine eff_store 4 rfl rfl rfl rfl rfl rfl (.inl (Nat.le_refl _)) rfl (Nat.le_of_ble_eq_true (by kernel_rfl)) rfl ?_
                refine at_end ?_
                refine at_thn ?_
                refine at_ret ?_
                obtain rfl := Option.some.inj H
                refine at_drop (k := 0) rfl rfl ?_
                refine at_drop (k := 0) rfl rfl ?_
                refine at_drop (k := 1) rfl rfl ?_
                refine at_done (vs := [.agg #[.slice A292 ((([b4] : List (List Int)) ++ b5).take 10).length c293, .int .i64 0]]) (obs := [fun w => CellsAt w ⟨g47, 0, none⟩ [.slice A292 ((([b4] : List (List Int)) ++ b5).take 10).length c293, .int .i64 0] 0]) (.inl rfl) [.cell 4 38] [(4, .agg #[.slice A292 ((([b4] : List (List Int)) ++ b5).take 10).length c293, .int .i64 0])] rfl (by kernel_rfl) (fun w hs => cellsV (k := 1) hs rfl _ 0 (Nat.le_of_ble_eq_true (by kernel_rfl)) rfl) (fun w hs => ⟨_, _, [s294], rfl, ⟨A292, c293, s294, rfl, rfl, ho298⟩, hle, (hs.tail (perm_at (k := 1) rfl))⟩)
              · rw [if_neg h296] at H
                refine at_cond_f rfl (decide_eq_false h296) ?_
                refine at_skip ?_
                refine at_thn ?_
                refine at_seq ?_
                refine at_ops [0, 1] rfl ?_
                refine at_seg [0] [1] rfl [(0, .agg #[.slice A292 (([b4] : List (List Int)) ++ b5).length c293, .int .i64 0])] [4, 41] (L2 := [(4, .pointer (some ⟨g47, 0, none⟩)), (41, .agg #[.slice A292 (([b4] : List (List Int)) ++ b5).length c293, .int .i64 0])]) (obs := [fun w => CellsAt w ⟨g290, 0, none⟩ [.slice A292 (([b4] : List (List Int)) ++ b5).length c293, .int .i64 0] 0]) (by kernel_rfl) ?_ ?_
                · intro w hs; exact cellsV (k := 0) hs rfl _ 0 (Nat.le_of_ble_eq_true (by kernel_rfl)) rfl
                refine at_eff rfl rfl ?_
                refine eff_store 4 rfl rfl rfl rfl rfl rfl (.inl (Nat.le_refl _)) rfl (Nat.le_of_ble_eq_true (by kernel_rfl)) rfl ?_
                refine at_end ?_
                refine at_thn ?_
                refine at_ret ?_
                obtain rfl := Option.some.inj H
                refine at_drop (k := 0) rfl rfl ?_
                refine at_drop (k := 0) rfl rfl ?_
                refine at_drop (k := 1) rfl rfl ?_
                refine at_done (vs := [.agg #[.slice A292 (([b4] : List (List Int)) ++ b5).length c293, .int .i64 0]]) (obs := [fun w => CellsAt w ⟨g47, 0, none⟩ [.slice A292 (([b4] : List (List Int)) ++ b5).length c293, .int .i64 0] 0]) (.inl rfl) [.cell 4 38] [(4, .agg #[.slice A292 (([b4] : List (List Int)) ++ b5).length c293, .int .i64 0])] rfl (by kernel_rfl) (fun w hs => cellsV (k := 1) hs rfl _ 0 (Nat.le_of_ble_eq_true (by kernel_rfl)) rfl) (fun w hs => ⟨_, _, [s294], rfl, ⟨A292, c293, s294, rfl, rfl, ho295⟩, hle, (hs.tail (perm_at (k := 1) rfl))⟩)
          · refine at_xone (#[true, true, true, true, true, false, false, false, true, false]) (by kernel_rfl) rfl rfl ?_
            obtain ⟨i_, hi_, hz_, _, _⟩ := info38
            refine eff_alloc rfl rfl hi_ hz_ #[.slice none ([] : List (List Int)).length 0, .int .i64 0] rfl (fun g299 => ?_)
            refine at_xS (fun w hs => hs.var (k := 2) rfl 0 rfl) ?_
            refine at_x1 3 5 (#[true, true, true, true, true, true, false, false, true, false]) rfl (by kernel_rfl) (by kernel_rfl) rfl rfl ?_
            obtain ⟨b5, H300, H⟩ := bind_some H
            have hm_ := spec_l04CopyAll.calls (I0 := J265) H300 hr41
            refine eff_call rfl rfl ok44 rfl rfl (show Meets Try.prog 44 ([.slice A39 p38.Items.length c40] : List Value).toArray _ [] _ from hm_) (Mr := ([(g299, .cells #[.slice none ([] : List (List Int)).length 0, .int .i64 0] 38 (0, 0))] :: [(g269, .cells #[.slice A261 b4.length c262] 23 (0, 0))] :: [(g46, .cells #[.slice A39 p38.Items.length c40, .int .i64 p38.At] 38 (0, 0))] :: [(g47, .cells #[.slice none ([] : List (List Int)).length 0, .int .i64 0] 38 (0, 0))] :: Fs)) (List.Perm.refl _) (fun v301 J302 M303 hq304 hJ305 => ?_)
            replace hle := hle.trans hJ305
            replace ho270 := ho270.mono hJ305
            replace hr268 := hr268.mono hJ305
            replace hr41 := hr41.mono hJ305
            replace hr45 := hr45.mono hJ305
            obtain ⟨A306, c307, s308, rfl, rfl, ho309⟩ := hq304
            refine at_xS (fun w hs => hs.var (k := 3) rfl 0 rfl) ?_
            refine at_x1 2 6 (#[true, true, true, true, true, true, true, false, true, false]) rfl (by kernel_rfl) (by kernel_rfl) rfl rfl ?_
            obtain ⟨h310, H⟩ := ite_some H
            obtain ⟨i_, hi_, hz_, hs_, hb_⟩ := info23
            refine eff_append (K := (Kd.slice (Kd.int .i64))) (xs := ([b4] : List (List Int))) (ys := b5) 2 rfl rfl rfl rfl rfl und34 und34 hi_ hz_ hs_ rfl rfl rfl ho270 rfl (fun w hs => ho309.rowAt (k := 0) hs rfl) (by rw [hb_]; omega) (by omega) (fun A311 c312 s313 ho314 => ?_)
            refine at_xX (by kernel_rfl) ?_
            refine at_xseg [7] 1 (#[true, true, true, true, true, true, true, true, true, false]) rfl (by kernel_rfl) [] [4, 5, 32] (L2 := [(4, .pointer (some ⟨g47, 0, none⟩)), (5, .pointer (some ⟨g299, 0, none⟩)), (32, .agg #[.slice A311 (([b4] : List (List Int)) ++ b5).length c312, .int .i64 0])]) (obs := []) (by kernel_rfl) (by kernel_rfl) (by kernel_rfl) (.inl (by kernel_rfl)) (fun w hS => trivial) (fun w hs => trivial) ?_
            refine at_x1 0 9 (#[true, true, true, true, true, true, true, true, true, true]) rfl (by kernel_rfl) (by kernel_rfl) rfl rfl ?_
            refine eff_store 1 rfl rfl rfl rfl rfl rfl (.inl (Nat.le_refl _)) rfl (Nat.le_of_ble_eq_true (by kernel_rfl)) rfl ?_
            refine at_xX (by kernel_rfl) ?_
            refine at_xend (by kernel_rfl) ?_
            refine at_thn ?_
            refine at_seq ?_
            refine at_seq ?_
            refine at_reg [(1, .slice A311 (([b4] : List (List Int)) ++ b5).length c312)] [4, 5, 36] (L2 := [(4, .pointer (some ⟨g47, 0, none⟩)), (5, .pointer (some ⟨g299, 0, none⟩)), (36, .bool (decide (((([b4] : List (List Int)) ++ b5).length : Int) > 10)))]) (obs := [fun w => w.cell? ⟨g299, 0, none⟩ = some (.slice A311 (([b4] : List (List Int)) ++ b5).length c312)]) (by kernel_rfl) ?_ ?_
            · intro w hs; exact hs.var (k := 1) rfl 0 rfl
            refine at_thn ?_
            by_cases h315 : ((([b4] : List (List Int)) ++ b5).length : Int) > 10
            · rw [if_pos h315] at H
              refine at_cond_t rfl (decide_eq_true h315) ?_
              refine at_ops [0, 1, 2, 3, 4] rfl ?_
              obtain ⟨h316, H⟩ := ite_some H
              have ho317 := ho314.take 10 (nat_le (by decide) h316)
              refine at_seg [0, 1, 2, 3] [4] rfl [(1, .slice A311 (([b4] : List (List Int)) ++ b5).length c312), (2, .slice A311 ((([b4] : List (List Int)) ++ b5).take 10).length c312)] [4, 5, 39, 40] (L2 := [(4, .pointer (some ⟨g47, 0, none⟩)), (5, .pointer (some ⟨g299, 0, none⟩)), (39, .slice A311 ((([b4] : List (List Int)) ++ b5).take 10).length c312), (40, .pointer (some ⟨g299, 0, none⟩))]) (obs := [fun w => w.cell? ⟨g299, 0, none⟩ = some (.slice A311 (([b4] : List (List Int)) ++ b5).length c312), fun _ => 0 ≤ (0 : Int) ∧ (0 : Int) ≤ (10 : Int) ∧ (10 : Int) ≤ ((c312 : Nat) : Int), fun _ => cutV A311 c312 1 0 10 = .slice A311 ((([b4] : List (List Int)) ++ b5).take 10).length c312]) (by kernel_rfl) ?_ ?_
              · intro w hs; exact ⟨hs.var (k := 1) rfl 0 rfl, ⟨Int.le_refl _, (by decide), Int.le_trans h316 (Int.ofNat_le.2 ho314.cap)⟩, cut_own ho314 (nat_le (by decide) h316)⟩
              refine at_eff rfl rfl ?_
              refine eff_store 1 rfl rfl rfl rfl rfl rfl (.inl (Nat.le_refl _)) rfl (Nat.le_of_ble_eq_true (by kernel_rfl)) rfl ?_
              refine at_end ?_
              refine at_thn ?_
              refine at_seq ?_
              refine at_ops [0, 1] rfl ?_
              refine at_seg [0] [1] rfl [(0, .agg #[.slice A311 ((([b4] : List (List Int)) ++ b5).take 10).length c312, .int .i64 0])] [4, 41] (L2 := [(4, .pointer (some ⟨g47, 0, none⟩)), (41, .agg #[.slice A311 ((([b4] : List (List Int)) ++ b5).take 10).length c312, .int .i64 0])]) (obs := [fun w => CellsAt w ⟨g299, 0, none⟩ [.slice A311 ((([b4] : List (List Int)) ++ b5).take 10).length c312, .int .i64 0] 0]) (by kernel_rfl) ?_ ?_
              · intro w hs; exact cellsV (k := 1) hs rfl _ 0 (Nat.le_of_ble_eq_true (by kernel_rfl)) rfl
              refine at_eff rfl rfl ?_
              refine eff_store 4 rfl rfl rfl rfl rfl rfl (.inl (Nat.le_refl _)) rfl (Nat.le_of_ble_eq_true (by kernel_rfl)) rfl ?_
              refine at_end ?_
              refine at_thn ?_
              refine at_ret ?_
              obtain rfl := Option.some.inj H
              refine at_drop (k := 0) rfl rfl ?_
              refine at_drop (k := 0) rfl rfl ?_
              refine at_drop (k := 1) rfl rfl ?_
              refine at_done (vs := [.agg #[.slice A311 ((([b4] : List (List Int)) ++ b5).take 10).length c312, .int .i64 0]]) (obs := [fun w => CellsAt w ⟨g47, 0, none⟩ [.slice A311 ((([b4] : List (List Int)) ++ b5).take 10).length c312, .int .i64 0] 0]) (.inl rfl) [.cell 4 38] [(4, .agg #[.slice A311 ((([b4] : List (List Int)) ++ b5).take 10).length c312, .int .i64 0])] rfl (by kernel_rfl) (fun w hs => cellsV (k := 1) hs rfl _ 0 (Nat.le_of_ble_eq_true (by kernel_rfl)) rfl) (fun w hs => ⟨_, _, [s313], rfl, ⟨A311, c312, s313, rfl, rfl, ho317⟩, hle, (hs.tail (perm_at (k := 1) rfl))⟩)
            · rw [if_neg h315] at H
              refine at_cond_f rfl (decide_eq_false h315) ?_
              refine at_skip ?_
              refine at_thn ?_
              refine at_seq ?_
              refine at_ops [0, 1] rfl ?_
              refine at_seg [0] [1] rfl [(0, .agg #[.slice A311 (([b4] : List (List Int)) ++ b5).length c312, .int .i64 0])] [4, 41] (L2 := [(4, .pointer (some ⟨g47, 0, none⟩)), (41, .agg #[.slice A311 (([b4] : List (List Int)) ++ b5).length c312, .int .i64 0])]) (obs := [fun w => CellsAt w ⟨g299, 0, none⟩ [.slice A311 (([b4] : List (List Int)) ++ b5).length c312, .int .i64 0] 0]) (by kernel_rfl) ?_ ?_
              · intro w hs; exact cellsV (k := 1) hs rfl _ 0 (Nat.le_of_ble_eq_true (by kernel_rfl)) rfl
              refine at_eff rfl rfl ?_
              refine eff_store 4 rfl rfl rfl rfl rfl rfl (.inl (Nat.le_refl _)) rfl (Nat.le_of_ble_eq_true (by kernel_rfl)) rfl ?_
              refine at_end ?_
              refine at_thn ?_
              refine at_ret ?_
              obtain rfl := Option.some.inj H
              refine at_drop (k := 0) rfl rfl ?_
              refine at_drop (k := 0) rfl rfl ?_
              refine at_drop (k := 1) rfl rfl ?_
              refine at_done (vs := [.agg #[.slice A311 (([b4] : List (List Int)) ++ b5).length c312, .int .i64 0]]) (obs := [fun w => CellsAt w ⟨g47, 0, none⟩ [.slice A311 (([b4] : List (List Int)) ++ b5).length c312, .int .i64 0] 0]) (.inl rfl) [.cell 4 38] [(4, .agg #[.slice A311 (([b4] : List (List Int)) ++ b5).length c312, .int .i64 0])] rfl (by kernel_rfl) (fun w hs => cellsV (k := 1) hs rfl _ 0 (Nat.le_of_ble_eq_true (by kernel_rfl)) rfl) (fun w hs => ⟨_, _, [s313], rfl, ⟨A311, c312, s313, rfl, rfl, ho314⟩, hle, (hs.tail (perm_at (k := 1) rfl))⟩)
        · refine at_xone (#[true, true, false, true, true, true, false, false, false, false]) (by kernel_rfl) rfl rfl ?_
          obtain ⟨b5, H318, H⟩ := bind_some H
          have hm_ := spec_l04CopyAll.calls (I0 := J257) H318 hr41
          refine eff_call rfl rfl ok44 rfl rfl (show Meets Try.prog 44 ([.slice A39 p38.Items.length c40] : List Value).toArray _ [] _ from hm_) (Mr := (s263 :: [(g46, .cells #[.slice A39 p38.Items.length c40, .int .i64 p38.At] 38 (0, 0))] :: [(g47, .cells #[.slice none ([] : List (List Int)).length 0, .int .i64 0] 38 (0, 0))] :: Fs)) (List.Perm.refl _) (fun v319 J320 M321 hq322 hJ323 => ?_)
          replace hle := hle.trans hJ323
          replace ho264 := ho264.mono hJ323
          replace hr41 := hr41.mono hJ323
          replace hr45 := hr45.mono hJ323
          obtain ⟨A324, c325, s326, rfl, rfl, ho327⟩ := hq322
          refine at_xS (fun w hs => hs.var (k := 2) rfl 0 rfl) ?_
          refine at_xall (fuel := 4) [2, 8] (by kernel_rfl) (by simp) (List.forall_mem_cons.2 ⟨?_, (List.forall_mem_cons.2 ⟨?_, fun _ h => nomatch h⟩)⟩)
          · refine at_xone (#[true, true, true, true, true, true, false, false, false, false]) (by kernel_rfl) rfl rfl ?_
            refine at_freeze (k := 1) rfl rfl (fun J328 hJ329 hin330 => ?_)
            replace hle := hle.trans hJ329
            replace ho264 := ho264.mono hJ329
            replace ho327 := ho327.mono hJ329
            replace hr41 := hr41.mono hJ329
            replace hr45 := hr45.mono hJ329
            have hr331 := ho264.rd (ImmLe.refl _) hin330
            refine eff_buildSlice (e := 23) (cells := #[.slice A261 b4.length c262]) ([b4] : List (List Int)).length rfl rfl rfl (by kernel_rfl) (fun g332 => ?_)
            have ho333 := own_lit (K := (Kd.slice (Kd.int .i64))) (e := 23) (I := J328) (xs := ([b4] : List (List Int))) (css := [[.slice A261 b4.length c262]]) (cells := #[.slice A261 b4.length c262]) (b := g332) ⟨⟨A261, c262, rfl, hr331⟩, trivial⟩ rfl
            refine at_xS (fun w hs => hs.var (k := 2) rfl 0 rfl) ?_
            refine at_xall (fuel := 3) [6, 8] (by kernel_rfl) (by simp) (List.forall_mem_cons.2 ⟨?_, (List.forall_mem_cons.2 ⟨?_, fun _ h => nomatch h⟩)⟩)
            · refine at_xone (#[true, true, true, true, true, true, true, false, false, false]) (by kernel_rfl) rfl rfl ?_
              obtain ⟨h334, H⟩ := ite_some H
              obtain ⟨i_, hi_, hz_, hs_, hb_⟩ := info23
              refine eff_append (K := (Kd.slice (Kd.int .i64))) (xs := ([b4] : List (List Int))) (ys := b5) 0 rfl rfl rfl rfl rfl und34 und34 hi_ hz_ hs_ rfl rfl rfl ho333 rfl (fun w hs => ho327.rowAt (k := 1) hs rfl) (by rw [hb_]; omega) (by omega) (fun A335 c336 s337 ho338 => ?_)
              refine at_xX (by kernel_rfl) ?_
              refine at_xseg [7] 2 (#[true, true, true, true, true, true, true, true, false, false]) rfl (by kernel_rfl) [] [4, 32] (L2 := [(4, .pointer (some ⟨g47, 0, none⟩)), (32, .agg #[.slice A335 (([b4] : List (List Int)) ++ b5).length c336, .int .i64 0])]) (obs := []) (by kernel_rfl) (by kernel_rfl) (by kernel_rfl) (.inl (by kernel_rfl)) (fun w hS => trivial) (fun w hs => trivial) ?_
              refine at_x1 1 8 (#[true, true, true, true, true, true, true, true, true, false]) rfl (by kernel_rfl) (by kernel_rfl) rfl rfl ?_
              obtain ⟨i_, hi_, hz_, _, _⟩ := info38
              refine eff_alloc rfl rfl hi_ hz_ #[.slice none ([] : List (List Int)).length 0, .int .i64 0] rfl (fun g339 => ?_)
              refine at_xX (by kernel_rfl) ?_
              refine at_x1 0 9 (#[true, true, true, true, true, true, true, true, true, true]) rfl (by kernel_rfl) (by kernel_rfl) rfl rfl ?_
              refine eff_store 0 rfl rfl rfl rfl rfl rfl (.inl (Nat.le_refl _)) rfl (Nat.le_of_ble_eq_true (by kernel_rfl)) rfl ?_
              refine at_xX (by kernel_rfl) ?_
              refine at_xend (by kernel_rfl) ?_
              refine at_thn ?_
              refine at_seq ?_
              refine at_seq ?_
              refine at_reg [(1, .slice A335 (([b4] : List (List Int)) ++ b5).length c336)] [4, 5, 36] (L2 := [(4, .pointer (some ⟨g47, 0, none⟩)), (5, .pointer (some ⟨g339, 0, none⟩)), (36, .bool (decide (((([b4] : List (List Int)) ++ b5).length : Int) > 10)))]) (obs := [fun w => w.cell? ⟨g339, 0, none⟩ = some (.slice A335 (([b4] : List (List Int)) ++ b5).length c336)]) (by kernel_rfl) ?_ ?_
              · intro w hs; exact hs.var (k := 0) rfl 0 rfl
              refine at_thn ?_
              by_cases h340 : ((([b4] : List (List Int)) ++ b5).length : Int) > 10
              · rw [if_pos h340] at H
                refine at_cond_t rfl (decide_eq_true h340) ?_
                refine at_ops [0, 1, 2, 3, 4] rfl ?_
                obtain ⟨h341, H⟩ := ite_some H
                have ho342 := ho338.take 10 (nat_le (by decide) h341)
                refine at_seg [0, 1, 2, 3] [4] rfl [(1, .slice A335 (([b4] : List (List Int)) ++ b5).length c336), (2, .slice A335 ((([b4] : List (List Int)) ++ b5).take 10).length c336)] [4, 5, 39, 40] (L2 := [(4, .pointer (some ⟨g47, 0, none⟩)), (5, .pointer (some ⟨g339, 0, none⟩)), (39, .slice A335 ((([b4] : List (List Int)) ++ b5).take 10).length c336), (40, .pointer (some ⟨g339, 0, none⟩))]) (obs := [fun w => w.cell? ⟨g339, 0, none⟩ = some (.slice A335 (([b4] : List (List Int)) ++ b5).length c336), fun _ => 0 ≤ (0 : Int) ∧ (0 : Int) ≤ (10 : Int) ∧ (10 : Int) ≤ ((c336 : Nat) : Int), fun _ => cutV A335 c336 1 0 10 = .slice A335 ((([b4] : List (List Int)) ++ b5).take 10).length c336]) (by kernel_rfl) ?_ ?_
                · intro w hs; exact ⟨hs.var (k := 0) rfl 0 rfl, ⟨Int.le_refl _, (by decide), Int.le_trans h341 (Int.ofNat_le.2 ho338.cap)⟩, cut_own ho338 (nat_le (by decide) h341)⟩
                refine at_eff rfl rfl ?_
                refine eff_store 0 rfl rfl rfl rfl rfl rfl (.inl (Nat.le_refl _)) rfl (Nat.le_of_ble_eq_true (by kernel_rfl)) rfl ?_
                refine at_end ?_
                refine at_thn ?_
                refine at_seq ?_
                refine at_ops [0, 1] rfl ?_
                refine at_seg [0] [1] rfl [(0, .agg #[.slice A335 ((([b4] : List (List Int)) ++ b5).take 10).length c336, .int .i64 0])] [4, 41] (L2 := [(4, .pointer (some ⟨g47, 0, none⟩)), (41, .agg #[.slice A335 ((([b4] : List (List Int)) ++ b5).take 10).length c336, .int .i64 0])]) (obs := [fun w => CellsAt w ⟨g339, 0, none⟩ [.slice A335 ((([b4] : List (List Int)) ++ b5).take 10).length c336, .int .i64 0] 0]) (by kernel_rfl) ?_ ?_
                · intro w hs; exact cellsV (k := 0) hs rfl _ 0 (Nat.le_of_ble_eq_true (by kernel_rfl)) rfl
                refine at_eff rfl rfl ?_
                refine eff_store 4 rfl rfl rfl rfl rfl rfl (.inl (Nat.le_refl _)) rfl (Nat.le_of_ble_eq_true (by kernel_rfl)) rfl ?_
                refine at_end ?_
                refine at_thn ?_
                refine at_ret ?_
                obtain rfl := Option.some.inj H
                refine at_drop (k := 0) rfl rfl ?_
                refine at_drop (k := 1) rfl rfl ?_
                refine at_drop (k := 1) rfl rfl ?_
                refine at_done (vs := [.agg #[.slice A335 ((([b4] : List (List Int)) ++ b5).take 10).length c336, .int .i64 0]]) (obs := [fun w => CellsAt w ⟨g47, 0, none⟩ [.slice A335 ((([b4] : List (List Int)) ++ b5).take 10).length c336, .int .i64 0] 0]) (.inl rfl) [.cell 4 38] [(4, .agg #[.slice A335 ((([b4] : List (List Int)) ++ b5).take 10).length c336, .int .i64 0])] rfl (by kernel_rfl) (fun w hs => cellsV (k := 1) hs rfl _ 0 (Nat.le_of_ble_eq_true (by kernel_rfl)) rfl) (fun w hs => ⟨_, _, [s337], rfl, ⟨A335, c336, s337, rfl, rfl, ho342⟩, hle, (hs.tail (perm_at (k := 1) rfl))⟩)
              · rw [if_neg h340] at H
                refine at_cond_f rfl (decide_eq_false h340) ?_
                refine at_skip ?_
                refine at_thn ?_
                refine at_seq ?_
                refine at_ops [0, 1] rfl ?_
                refine at_seg [0] [1] rfl [(0, .agg #[.slice A335 (([b4] : List (List Int)) ++ b5).length c336, .int .i64 0])] [4, 41] (L2 := [(4, .pointer (some ⟨g47, 0, none⟩)), (41, .agg #[.slice A335 (([b4] : List (List Int)) ++ b5).length c336, .int .i64 0])]) (obs := [fun w => CellsAt w ⟨g339, 0, none⟩ [.slice A335 (([b4] : List (List Int)) ++ b5).length c336, .int .i64 0] 0]) (by kernel_rfl) ?_ ?_
                · intro w hs; exact cellsV (k := 0) hs rfl _ 0 (Nat.le_of_ble_eq_true (by kernel_rfl)) rfl
                refine at_eff rfl rfl ?_
                refine eff_store 4 rfl rfl rfl rfl rfl rfl (.inl (Nat.le_refl _)) rfl (Nat.le_of_ble_eq_true (by kernel_rfl)) rfl ?_
                refine at_end ?_
                refine at_thn ?_
                refine at_ret ?_
                obtain rfl := Option.some.inj H
                refine at_drop (k := 0) rfl rfl ?_
                refine at_drop (k := 1) rfl rfl ?_
                refine at_drop (k := 1) rfl rfl ?_
                refine at_done (vs := [.agg #[.slice A335 (([b4] : List (List Int)) ++ b5).length c336, .int .i64 0]]) (obs := [fun w => CellsAt w ⟨g47, 0, none⟩ [.slice A335 (([b4] : List (List Int)) ++ b5).length c336, .int .i64 0] 0]) (.inl rfl) [.cell 4 38] [(4, .agg #[.slice A335 (([b4] : List (List Int)) ++ b5).length c336, .int .i64 0])] rfl (by kernel_rfl) (fun w hs => cellsV (k := 1) hs rfl _ 0 (Nat.le_of_ble_eq_true (by kernel_rfl)) rfl) (fun w hs => ⟨_, _, [s337], rfl, ⟨A335, c336, s337, rfl, rfl, ho338⟩, hle, (hs.tail (perm_at (k := 1) rfl))⟩)
            · refine at_xone (#[true, true, true, true, true, true, false, false, true, false]) (by kernel_rfl) rfl rfl ?_
              obtain ⟨i_, hi_, hz_, _, _⟩ := info38
              refine eff_alloc rfl rfl hi_ hz_ #[.slice none ([] : List (List Int)).length 0, .int .i64 0] rfl (fun g343 => ?_)
              refine at_xS (fun w hs => hs.var (k := 3) rfl 0 rfl) ?_
              refine at_x1 2 6 (#[true, true, true, true, true, true, true, false, true, false]) rfl (by kernel_rfl) (by kernel_rfl) rfl rfl ?_
              obtain ⟨h344, H⟩ := ite_some H
              obtain ⟨i_, hi_, hz_, hs_, hb_⟩ := info23
              refine eff_append (K := (Kd.slice (Kd.int .i64))) (xs := ([b4] : List (List Int))) (ys := b5) 1 rfl rfl rfl rfl rfl und34 und34 hi_ hz_ hs_ rfl rfl rfl ho333 rfl (fun w hs => ho327.rowAt (k := 2) hs rfl) (by rw [hb_]; omega) (by omega) (fun A345 c346 s347 ho348 => ?_)
              refine at_xX (by kernel_rfl) ?_
              refine at_xseg [7] 1 (#[true, true, true, true, true, true, true, true, true, false]) rfl (by kernel_rfl) [] [4, 5, 32] (L2 := [(4, .pointer (some ⟨g47, 0, none⟩)), (5, .pointer (some ⟨g343, 0, none⟩)), (32, .agg #[.slice A345 (([b4] : List (List Int)) ++ b5).length c346, .int .i64 0])]) (obs := []) (by kernel_rfl) (by kernel_rfl) (by kernel_rfl) (.inl (by kernel_rfl)) (fun w hS => trivial) (fun w hs => trivial) ?_
              refine at_x1 0 9 (#[true, true, true, true, true, true, true, true, true, true]) rfl (by kernel_rfl) (by kernel_rfl) rfl rfl ?_
              refine eff_store 0 rfl rfl rfl rfl rfl rfl (.inl (Nat.le_refl _)) rfl (Nat.le_of_ble_eq_true (by kernel_rfl)) rfl ?_
              refine at_xX (by kernel_rfl) ?_
              refine at_xend (by kernel_rfl) ?_
              refine at_thn ?_
              refine at_seq ?_
              refine at_seq ?_
              refine at_reg [(1, .slice A345 (([b4] : List (List Int)) ++ b5).length c346)] [4, 5, 36] (L2 := [(4, .pointer (some ⟨g47, 0, none⟩)), (5, .pointer (some ⟨g343, 0, none⟩)), (36, .bool (decide (((([b4] : List (List Int)) ++ b5).length : Int) > 10)))]) (obs := [fun w => w.cell? ⟨g343, 0, none⟩ = some (.slice A345 (([b4] : List (List Int)) ++ b5).length c346)]) (by kernel_rfl) ?_ ?_
              · intro w hs; exact hs.var (k := 0) rfl 0 rfl
              refine at_thn ?_
              by_cases h349 : ((([b4] : List (List Int)) ++ b5).length : Int) > 10
              · rw [if_pos h349] at H
                refine at_cond_t rfl (decide_eq_true h349) ?_
                refine at_ops [0, 1, 2, 3, 4] rfl ?_
                obtain ⟨h350, H⟩ := ite_some H
                have ho351 := ho348.take 10 (nat_le (by decide) h350)
                refine at_seg [0, 1, 2, 3] [4] rfl [(1, .slice A345 (([b4] : List (List Int)) ++ b5).length c346), (2, .slice A345 ((([b4] : List (List Int)) ++ b5).take 10).length c346)] [4, 5, 39, 40] (L2 := [(4, .pointer (some ⟨g47, 0, none⟩)), (5, .pointer (some ⟨g343, 0, none⟩)), (39, .slice A345 ((([b4] : List (List Int)) ++ b5).take 10).length c346), (40, .pointer (some ⟨g343, 0, none⟩))]) (obs := [fun w => w.cell? ⟨g343, 0, none⟩ = some (.slice A345 (([b4] : List (List Int)) ++ b5).length c346), fun _ => 0 ≤ (0 : Int) ∧ (0 : Int) ≤ (10 : Int) ∧ (10 : Int) ≤ ((c346 : Nat) : Int), fun _ => cutV A345 c346 1 0 10 = .slice A345 ((([b4] : List (List Int)) ++ b5).take 10).length c346]) (by kernel_rfl) ?_ ?_
                · intro w hs; exact ⟨hs.var (k := 0) rfl 0 rfl, ⟨Int.le_refl _, (by decide), Int.le_trans h350 (Int.ofNat_le.2 ho348.cap)⟩, cut_own ho348 (nat_le (by decide) h350)⟩
                refine at_eff rfl rfl ?_
                refine eff_store 0 rfl rfl rfl rfl rfl rfl (.inl (Nat.le_refl _)) rfl (Nat.le_of_ble_eq_true (by kernel_rfl)) rfl ?_
                refine at_end ?_
                refine at_thn ?_
                refine at_seq ?_
                refine at_ops [0, 1] rfl ?_
                refine at_seg [0] [1] rfl [(0, .agg #[.slice A345 ((([b4] : List (List Int)) ++ b5).take 10).length c346, .int .i64 0])] [4, 41] (L2 := [(4, .pointer (some ⟨g47, 0, none⟩)), (41, .agg #[.slice A345 ((([b4] : List (List Int)) ++ b5).take 10).length c346, .int .i64 0])]) (obs := [fun w => CellsAt w ⟨g343, 0, none⟩ [.slice A345 ((([b4] : List (List Int)) ++ b5).take 10).length c346, .int .i64 0] 0]) (by kernel_rfl) ?_ ?_
                · intro w hs; exact cellsV (k := 0) hs rfl _ 0 (Nat.le_of_ble_eq_true (by kernel_rfl)) rfl
                refine at_eff rfl rfl ?_
                refine eff_store 4 rfl rfl rfl rfl rfl rfl (.inl (Nat.le_refl _)) rfl (Nat.le_of_ble_eq_true (by kernel_rfl)) rfl ?_
                refine at_end ?_
                refine at_thn ?_
                refine at_ret ?_
                obtain rfl := Option.some.inj H
                refine at_drop (k := 0) rfl rfl ?_
                refine at_drop (k := 1) rfl rfl ?_
                refine at_drop (k := 1) rfl rfl ?_
                refine at_done (vs := [.agg #[.slice A345 ((([b4] : List (List Int)) ++ b5).take 10).length c346, .int .i64 0]]) (obs := [fun w => CellsAt w ⟨g47, 0, none⟩ [.slice A345 ((([b4] : List (List Int)) ++ b5).take 10).length c346, .int .i64 0] 0]) (.inl rfl) [.cell 4 38] [(4, .agg #[.slice A345 ((([b4] : List (List Int)) ++ b5).take 10).length c346, .int .i64 0])] rfl (by kernel_rfl) (fun w hs => cellsV (k := 1) hs rfl _ 0 (Nat.le_of_ble_eq_true (by kernel_rfl)) rfl) (fun w hs => ⟨_, _, [s347], rfl, ⟨A345, c346, s347, rfl, rfl, ho351⟩, hle, (hs.tail (perm_at (k := 1) rfl))⟩)
              · rw [if_neg h349] at H
                refine at_cond_f rfl (decide_eq_false h349) ?_
                refine at_skip ?_
                refine at_thn ?_
                refine at_seq ?_
                refine at_ops [0, 1] rfl ?_
                refine at_seg [0] [1] rfl [(0, .agg #[.slice A345 (([b4] : List (List Int)) ++ b5).length c346, .int .i64 0])] [4, 41] (L2 := [(4, .pointer (some ⟨g47, 0, none⟩)), (41, .agg #[.slice A345 (([b4] : List (List Int)) ++ b5).length c346, .int .i64 0])]) (obs := [fun w => CellsAt w ⟨g343, 0, none⟩ [.slice A345 (([b4] : List (List Int)) ++ b5).length c346, .int .i64 0] 0]) (by kernel_rfl) ?_ ?_
                · intro w hs; exact cellsV (k := 0) hs rfl _ 0 (Nat.le_of_ble_eq_true (by kernel_rfl)) rfl
                refine at_eff rfl rfl ?_
                refine eff_store 4 rfl rfl rfl rfl rfl rfl (.inl (Nat.le_refl _)) rfl (Nat.le_of_ble_eq_true (by kernel_rfl)) rfl ?_
                refine at_end ?_
                refine at_thn ?_
                refine at_ret ?_
                obtain rfl := Option.some.inj H
                refine at_drop (k := 0) rfl rfl ?_
                refine at_drop (k := 1) rfl rfl ?_
                refine at_drop (k := 1) rfl rfl ?_
                refine at_done (vs := [.agg #[.slice A345 (([b4] : List (List Int)) ++ b5).length c346, .int .i64 0]]) (obs := [fun w => CellsAt w ⟨g47, 0, none⟩ [.slice A345 (([b4] : List (List Int)) ++ b5).length c346, .int .i64 0] 0]) (.inl rfl) [.cell 4 38] [(4, .agg #[.slice A345 (([b4] : List (List Int)) ++ b5).length c346, .int .i64 0])] rfl (by kernel_rfl) (fun w hs => cellsV (k := 1) hs rfl _ 0 (Nat.le_of_ble_eq_true (by kernel_rfl)) rfl) (fun w hs => ⟨_, _, [s347], rfl, ⟨A345, c346, s347, rfl, rfl, ho348⟩, hle, (hs.tail (perm_at (k := 1) rfl))⟩)
          · refine at_xone (#[true, true, false, true, true, true, false, false, true, false]) (by kernel_rfl) rfl rfl ?_
            obtain ⟨i_, hi_, hz_, _, _⟩ := info38
            refine eff_alloc rfl rfl hi_ hz_ #[.slice none ([] : List (List Int)).length 0, .int .i64 0] rfl (fun g352 => ?_)
            refine at_xS (fun w hs => hs.var (k := 3) rfl 0 rfl) ?_
            refine at_x1 3 2 (#[true, true, true, true, true, true, false, false, true, false]) rfl (by kernel_rfl) (by kernel_rfl) rfl rfl ?_
            refine at_freeze (k := 2) rfl rfl (fun J353 hJ354 hin355 => ?_)
            replace hle := hle.trans hJ354
            replace ho264 := ho264.mono hJ354
            replace ho327 := ho327.mono hJ354
            replace hr41 := hr41.mono hJ354
            replace hr45 := hr45.mono hJ354
            have hr356 := ho264.rd (ImmLe.refl _) hin355
            refine eff_buildSlice (e := 23) (cells := #[.slice A261 b4.length c262]) ([b4] : List (List Int)).length rfl rfl rfl (by kernel_rfl) (fun g357 => ?_)
            have ho358 := own_lit (K := (Kd.slice (Kd.int .i64))) (e := 23) (I := J353) (xs := ([b4] : List (List Int))) (css := [[.slice A261 b4.length c262]]) (cells := #[.slice A261 b4.length c262]) (b := g357) ⟨⟨A261, c262, rfl, hr356⟩, trivial⟩ rfl
            refine at_xS (fun w hs => hs.var (k := 3) rfl 0 rfl) ?_
            refine at_x1 2 6 (#[true, true, true, true, true, true, true, false, true, false]) rfl (by kernel_rfl) (by kernel_rfl) rfl rfl ?_
            obtain ⟨h359, H⟩ := ite_some H
            obtain ⟨i_, hi_, hz_, hs_, hb_⟩ := info23
            refine eff_append (K := (Kd.slice (Kd.int .i64))) (xs := ([b4] : List (List Int))) (ys := b5) 0 rfl rfl rfl rfl rfl und34 und34 hi_ hz_ hs_ rfl rfl rfl ho358 rfl (fun w hs => ho327.rowAt (k := 2) hs rfl) (by rw [hb_]; omega) (by omega) (fun A360 c361 s362 ho363 => ?_)
            refine at_xX (by kernel_rfl) ?_
            refine at_xseg [7] 1 (#[true, true, true, true, true, true, true, true, true, false]) rfl (by kernel_rfl) [] [4, 5, 32] (L2 := [(4, .pointer (some ⟨g47, 0, none⟩)), (5, .pointer (some ⟨g352, 0, none⟩)), (32, .agg #[.slice A360 (([b4] : List (List Int)) ++ b5).length c361, .int .i64 0])]) (obs := []) (by kernel_rfl) (by kernel_rfl) (by kernel_rfl) (.inl (by kernel_rfl)) (fun w hS => trivial) (fun w hs => trivial) ?_
            refine at_x1 0 9 (#[true, true, true, true, true, true, true, true, true, true]) rfl (by kernel_rfl) (by kernel_rfl) rfl rfl ?_
            refine eff_store 1 rfl rfl rfl rfl rfl rfl (.inl (Nat.le_refl _)) rfl (Nat.le_of_ble_eq_true (by kernel_rfl)) rfl ?_
            refine at_xX (by kernel_rfl) ?_
            refine at_xend (by kernel_rfl) ?_
            refine at_thn ?_
            refine at_seq ?_
            refine at_seq ?_
            refine at_reg [(1, .slice A360 (([b4] : List (List Int)) ++ b5).length c361)] [4, 5, 36] (L2 := [(4, .pointer (some ⟨g47, 0, none⟩)), (5, .pointer (some ⟨g352, 0, none⟩)), (36, .bool (decide (((([b4] : List (List Int)) ++ b5).length : Int) > 10)))]) (obs := [fun w => w.cell? ⟨g352, 0, none⟩ = some (.slice A360 (([b4] : List (List Int)) ++ b5).length c361)]) (by kernel_rfl) ?_ ?_
            · intro w hs; exact hs.var (k := 1) rfl 0 rfl
            refine at_thn ?_
            by_cases h364 : ((([b4] : List (List Int)) ++ b5).length : Int) > 10
            · rw [if_pos h364] at H
              refine at_cond_t rfl (decide_eq_true h364) ?_
              refine at_ops [0, 1, 2, 3, 4] rfl ?_
              obtain ⟨h365, H⟩ := ite_some H
              have ho366 := ho363.take 10 (nat_le (by decide) h365)
              refine at_seg [0, 1, 2, 3] [4] rfl [(1, .slice A360 (([b4] : List (List Int)) ++ b5).length c361), (2, .slice A360 ((([b4] : List (List Int)) ++ b5).take 10).length c361)] [4, 5, 39, 40] (L2 := [(4, .pointer (some ⟨g47, 0, none⟩)), (5, .pointer (some ⟨g352, 0, none⟩)), (39, .slice A360 ((([b4] : List (List Int)) ++ b5).take 10).length c361), (40, .pointer (some ⟨g352, 0, none⟩))]) (obs := [fun w => w.cell? ⟨g352, 0, none⟩ = some (.slice A360 (([b4] : List (List Int)) ++ b5).length c361), fun _ => 0 ≤ (0 : Int) ∧ (0 : Int) ≤ (10 : Int) ∧ (10 : Int) ≤ ((c361 : Nat) : Int), fun _ => cutV A360 c361 1 0 10 = .slice A360 ((([b4] : List (List Int)) ++ b5).take 10).length c361]) (by kernel_rfl) ?_ ?_
              · intro w hs; exact ⟨hs.var (k := 1) rfl 0 rfl, ⟨Int.le_refl _, (by decide), Int.le_trans h365 (Int.ofNat_le.2 ho363.cap)⟩, cut_own ho363 (nat_le (by decide) h365)⟩
              refine at_eff rfl rfl ?_
              refine eff_store 1 rfl rfl rfl rfl rfl rfl (.inl (Nat.le_refl _)) rfl (Nat.le_of_ble_eq_true (by kernel_rfl)) rfl ?_
              refine at_end ?_
              refine at_thn ?_
              refine at_seq ?_
              refine at_ops [0, 1] rfl ?_
              refine at_seg [0] [1] rfl [(0, .agg #[.slice A360 ((([b4] : List (List Int)) ++ b5).take 10).length c361, .int .i64 0])] [4, 41] (L2 := [(4, .pointer (some ⟨g47, 0, none⟩)), (41, .agg #[.slice A360 ((([b4] : List (List Int)) ++ b5).take 10).length c361, .int .i64 0])]) (obs := [fun w => CellsAt w ⟨g352, 0, none⟩ [.slice A360 ((([b4] : List (List Int)) ++ b5).take 10).length c361, .int .i64 0] 0]) (by kernel_rfl) ?_ ?_
              · intro w hs; exact cellsV (k := 1) hs rfl _ 0 (Nat.le_of_ble_eq_true (by kernel_rfl)) rfl
              refine at_eff rfl rfl ?_
              refine eff_store 4 rfl rfl rfl rfl rfl rfl (.inl (Nat.le_refl _)) rfl (Nat.le_of_ble_eq_true (by kernel_rfl)) rfl ?_
              refine at_end ?_
              refine at_thn ?_
              refine at_ret ?_
              obtain rfl := Option.some.inj H
              refine at_drop (k := 1) rfl rfl ?_
              refine at_drop (k := 1) rfl rfl ?_
              refine at_drop (k := 1) rfl rfl ?_
              refine at_done (vs := [.agg #[.slice A360 ((([b4] : List (List Int)) ++ b5).take 10).length c361, .int .i64 0]]) (obs := [fun w => CellsAt w ⟨g47, 0, none⟩ [.slice A360 ((([b4] : List (List Int)) ++ b5).take 10).length c361, .int .i64 0] 0]) (.inl rfl) [.cell 4 38] [(4, .agg #[.slice A360 ((([b4] : List (List Int)) ++ b5).take 10).length c361, .int .i64 0])] rfl (by kernel_rfl) (fun w hs => cellsV (k := 1) hs rfl _ 0 (Nat.le_of_ble_eq_true (by kernel_rfl)) rfl) (fun w hs => ⟨_, _, [s362], rfl, ⟨A360, c361, s362, rfl, rfl, ho366⟩, hle, (hs.tail (perm_at (k := 1) rfl))⟩)
            · rw [if_neg h364] at H
              refine at_cond_f rfl (decide_eq_false h364) ?_
              refine at_skip ?_
              refine at_thn ?_
              refine at_seq ?_
              refine at_ops [0, 1] rfl ?_
              refine at_seg [0] [1] rfl [(0, .agg #[.slice A360 (([b4] : List (List Int)) ++ b5).length c361, .int .i64 0])] [4, 41] (L2 := [(4, .pointer (some ⟨g47, 0, none⟩)), (41, .agg #[.slice A360 (([b4] : List (List Int)) ++ b5).length c361, .int .i64 0])]) (obs := [fun w => CellsAt w ⟨g352, 0, none⟩ [.slice A360 (([b4] : List (List Int)) ++ b5).length c361, .int .i64 0] 0]) (by kernel_rfl) ?_ ?_
              · intro w hs; exact cellsV (k := 1) hs rfl _ 0 (Nat.le_of_ble_eq_true (by kernel_rfl)) rfl
              refine at_eff rfl rfl ?_
              refine eff_store 4 rfl rfl rfl rfl rfl rfl (.inl (Nat.le_refl _)) rfl (Nat.le_of_ble_eq_true (by kernel_rfl)) rfl ?_
              refine at_end ?_
              refine at_thn ?_
              refine at_ret ?_
              obtain rfl := Option.some.inj H
              refine at_drop (k := 1) rfl rfl ?_
              refine at_drop (k := 1) rfl rfl ?_
              refine at_drop (k := 1) rfl rfl ?_
              refine at_done (vs := [.agg #[.slice A360 (([b4] : List (List Int)) ++ b5).length c361, .int .i64 0]]) (obs := [fun w => CellsAt w ⟨g47, 0, none⟩ [.slice A360 (([b4] : List (List Int)) ++ b5).length c361, .int .i64 0] 0]) (.inl rfl) [.cell 4 38] [(4, .agg #[.slice A360 (([b4] : List (List Int)) ++ b5).length c361, .int .i64 0])] rfl (by kernel_rfl) (fun w hs => cellsV (k := 1) hs rfl _ 0 (Nat.le_of_ble_eq_true (by kernel_rfl)) rfl) (fun w hs => ⟨_, _, [s362], rfl, ⟨A360, c361, s362, rfl, rfl, ho363⟩, hle, (hs.tail (perm_at (k := 1) rfl))⟩)
        · refine at_xone (#[true, true, false, true, true, false, false, false, true, false]) (by kernel_rfl) rfl rfl ?_
          obtain ⟨i_, hi_, hz_, _, _⟩ := info38
          refine eff_alloc rfl rfl hi_ hz_ #[.slice none ([] : List (List Int)).length 0, .int .i64 0] rfl (fun g367 => ?_)
          refine at_xS (fun w hs => hs.var (k := 2) rfl 0 rfl) ?_
          refine at_xall (fuel := 4) [2, 5] (by kernel_rfl) (by simp) (List.forall_mem_cons.2 ⟨?_, (List.forall_mem_cons.2 ⟨?_, fun _ h => nomatch h⟩)⟩)
          · refine at_xone (#[true, true, true, true, true, false, false, false, true, false]) (by kernel_rfl) rfl rfl ?_
            refine at_freeze (k := 1) rfl rfl (fun J368 hJ369 hin370 => ?_)
            replace hle := hle.trans hJ369
            replace ho264 := ho264.mono hJ369
            replace hr41 := hr41.mono hJ369
            replace hr45 := hr45.mono hJ369
            have hr371 := ho264.rd (ImmLe.refl _) hin370
            refine eff_buildSlice (e := 23) (cells := #[.slice A261 b4.length c262]) ([b4] : List (List Int)).length rfl rfl rfl (by kernel_rfl) (fun g372 => ?_)
            have ho373 := own_lit (K := (Kd.slice (Kd.int .i64))) (e := 23) (I := J368) (xs := ([b4] : List (List Int))) (css := [[.slice A261 b4.length c262]]) (cells := #[.slice A261 b4.length c262]) (b := g372) ⟨⟨A261, c262, rfl, hr371⟩, trivial⟩ rfl
            refine at_xS (fun w hs => hs.var (k := 2) rfl 0 rfl) ?_
            refine at_x1 3 5 (#[true, true, true, true, true, true, false, false, true, false]) rfl (by kernel_rfl) (by kernel_rfl) rfl rfl ?_
            obtain ⟨b5, H374, H⟩ := bind_some H
            have hm_ := spec_l04CopyAll.calls (I0 := J368) H374 hr41
            refine eff_call rfl rfl ok44 rfl rfl (show Meets Try.prog 44 ([.slice A39 p38.Items.length c40] : List Value).toArray _ [] _ from hm_) (Mr := ([(g372, .cells #[.slice A261 b4.length c262] 23 (0, 0))] :: [(g367, .cells #[.slice none ([] : List (List Int)).length 0, .int .i64 0] 38 (0, 0))] :: [(g46, .cells #[.slice A39 p38.Items.length c40, .int .i64 p38.At] 38 (0, 0))] :: [(g47, .cells #[.slice none ([] : List (List Int)).length 0, .int .i64 0] 38 (0, 0))] :: Fs)) (List.Perm.refl _) (fun v375 J376 M377 hq378 hJ379 => ?_)
            replace hle := hle.trans hJ379
            replace ho373 := ho373.mono hJ379
            replace hr371 := hr371.mono hJ379
            replace hr41 := hr41.mono hJ379
            replace hr45 := hr45.mono hJ379
            obtain ⟨A380, c381, s382, rfl, rfl, ho383⟩ := hq378
            refine at_xS (fun w hs => hs.var (k := 3) rfl 0 rfl) ?_
            refine at_x1 2 6 (#[true, true, true, true, true, true, true, false, true, false]) rfl (by kernel_rfl) (by kernel_rfl) rfl rfl ?_
            obtain ⟨h384, H⟩ := ite_some H
            obtain ⟨i_, hi_, hz_, hs_, hb_⟩ := info23
            refine eff_append (K := (Kd.slice (Kd.int .i64))) (xs := ([b4] : List (List Int))) (ys := b5) 1 rfl rfl rfl rfl rfl und34 und34 hi_ hz_ hs_ rfl rfl rfl ho373 rfl (fun w hs => ho383.rowAt (k := 0) hs rfl) (by rw [hb_]; omega) (by omega) (fun A385 c386 s387 ho388 => ?_)
            refine at_xX (by kernel_rfl) ?_
            refine at_xseg [7] 1 (#[true, true, true, true, true, true, true, true, true, false]) rfl (by kernel_rfl) [] [4, 5, 32] (L2 := [(4, .pointer (some ⟨g47, 0, none⟩)), (5, .pointer (some ⟨g367, 0, none⟩)), (32, .agg #[.slice A385 (([b4] : List (List Int)) ++ b5).length c386, .int .i64 0])]) (obs := []) (by kernel_rfl) (by kernel_rfl) (by kernel_rfl) (.inl (by kernel_rfl)) (fun w hS => trivial) (fun w hs => trivial) ?_
            refine at_x1 0 9 (#[true, true, true, true, true, true, true, true, true, true]) rfl (by kernel_rfl) (by kernel_rfl) rfl rfl ?_
            refine eff_store 2 rfl rfl rfl rfl rfl rfl (.inl (Nat.le_refl _)) rfl (Nat.le_of_ble_eq_true (by kernel_rfl)) rfl ?_
            refine at_xX (by kernel_rfl) ?_
            refine at_xend (by kernel_rfl) ?_
            refine at_thn ?_
            refine at_seq ?_
            refine at_seq ?_
            refine at_reg [(1, .slice A385 (([b4] : List (List Int)) ++ b5).length c386)] [4, 5, 36] (L2 := [(4, .pointer (some ⟨g47, 0, none⟩)), (5, .pointer (some ⟨g367, 0, none⟩)), (36, .bool (decide (((([b4] : List (List Int)) ++ b5).length : Int) > 10)))]) (obs := [fun w => w.cell? ⟨g367, 0, none⟩ = some (.slice A385 (([b4] : List (List Int)) ++ b5).length c386)]) (by kernel_rfl) ?_ ?_
            · intro w hs; exact hs.var (k := 2) rfl 0 rfl
            refine at_thn ?_
            by_cases h389 : ((([b4] : List (List Int)) ++ b5).length : Int) > 10
            · rw [if_pos h389] at H
              refine at_cond_t rfl (decide_eq_true h389) ?_
              refine at_ops [0, 1, 2, 3, 4] rfl ?_
              obtain ⟨h390, H⟩ := ite_some H
              have ho391 := ho388.take 10 (nat_le (by decide) h390)
              refine at_seg [0, 1, 2, 3] [4] rfl [(1, .slice A385 (([b4] : List (List Int)) ++ b5).length c386), (2, .slice A385 ((([b4] : List (List Int)) ++ b5).take 10).length c386)] [4, 5, 39, 40] (L2 := [(4, .pointer (some ⟨g47, 0, none⟩)), (5, .pointer (some ⟨g367, 0, none⟩)), (39, .slice A385 ((([b4] : List (List Int)) ++ b5).take 10).length c386), (40, .pointer (some ⟨g367, 0, none⟩))]) (obs := [fun w => w.cell? ⟨g367, 0, none⟩ = some (.slice A385 (([b4] : List (List Int)) ++ b5).length c386), fun _ => 0 ≤ (0 : Int) ∧ (0 : Int) ≤ (10 : Int) ∧ (10 : Int) ≤ ((c386 : Nat) : Int), fun _ => cutV A385 c386 1 0 10 = .slice A385 ((([b4] : List (List Int)) ++ b5).take 10).length c386]) (by kernel_rfl) ?_ ?_
              · intro w hs; exact ⟨hs.var (k := 2) rfl 0 rfl, ⟨Int.le_refl _, (by decide), Int.le_trans h390 (Int.ofNat_le.2 ho388.cap)⟩, cut_own ho388 (nat_le (by decide) h390)⟩
              refine at_eff rfl rfl ?_
              refine eff_store 2 rfl rfl rfl rfl rfl rfl (.inl (Nat.le_refl _)) rfl (Nat.le_of_ble_eq_true (by kernel_rfl)) rfl ?_
              refine at_end ?_
              refine at_thn ?_
              refine at_seq ?_
              refine at_ops [0, 1] rfl ?_
              refine at_seg [0] [1] rfl [(0, .agg #[.slice A385 ((([b4] : List (List Int)) ++ b5).take 10).length c386, .int .i64 0])] [4, 41] (L2 := [(4, .pointer (some ⟨g47, 0, none⟩)), (41, .agg #[.slice A385 ((([b4] : List (List Int)) ++ b5).take 10).length c386, .int .i64 0])]) (obs := [fun w => CellsAt w ⟨g367, 0, none⟩ [.slice A385 ((([b4] : List (List Int)) ++ b5).take 10).length c386, .int .i64 0] 0]) (by kernel_rfl) ?_ ?_
              · intro w hs; exact cellsV (k := 2) hs rfl _ 0 (Nat.le_of_ble_eq_true (by kernel_rfl)) rfl
              refine at_eff rfl rfl ?_
              refine eff_store 4 rfl rfl rfl rfl rfl rfl (.inl (Nat.le_refl _)) rfl (Nat.le_of_ble_eq_true (by kernel_rfl)) rfl ?_
              refine at_end ?_
              refine at_thn ?_
              refine at_ret ?_
              obtain rfl := Option.some.inj H
              refine at_drop (k := 0) rfl rfl ?_
              refine at_drop (k := 1) rfl rfl ?_
              refine at_drop (k := 1) rfl rfl ?_
              refine at_done (vs := [.agg #[.slice A385 ((([b4] : List (List Int)) ++ b5).take 10).length c386, .int .i64 0]]) (obs := [fun w => CellsAt w ⟨g47, 0, none⟩ [.slice A385 ((([b4] : List (List Int)) ++ b5).take 10).length c386, .int .i64 0] 0]) (.inl rfl) [.cell 4 38] [(4, .agg #[.slice A385 ((([b4] : List (List Int)) ++ b5).take 10).length c386, .int .i64 0])] rfl (by kernel_rfl) (fun w hs => cellsV (k := 1) hs rfl _ 0 (Nat.le_of_ble_eq_true (by kernel_rfl)) rfl) (fun w hs => ⟨_, _, [s387], rfl, ⟨A385, c386, s387, rfl, rfl, ho391⟩, hle, (hs.tail (perm_at (k := 1) rfl))⟩)
            · rw [if_neg h389] at H
              refine at_cond_f rfl (decide_eq_false h389) ?_
              refine at_skip ?_
              refine at_thn ?_
              refine at_seq ?_
              refine at_ops [0, 1] rfl ?_
              refine at_seg [0] [1] rfl [(0, .agg #[.slice A385 (([b4] : List (List Int)) ++ b5).length c386, .int .i64 0])] [4, 41] (L2 := [(4, .pointer (some ⟨g47, 0, none⟩)), (41, .agg #[.slice A385 (([b4] : List (List Int)) ++ b5).length c386, .int .i64 0])]) (obs := [fun w => CellsAt w ⟨g367, 0, none⟩ [.slice A385 (([b4] : List (List Int)) ++ b5).length c386, .int .i64 0] 0]) (by kernel_rfl) ?_ ?_
              · intro w hs; exact cellsV (k := 2) hs rfl _ 0 (Nat.le_of_ble_eq_true (by kernel_rfl)) rfl
              refine at_eff rfl rfl ?_
              refine eff_store 4 rfl rfl rfl rfl rfl rfl (.inl (Nat.le_refl _)) rfl (Nat.le_of_ble_eq_true (by kernel_rfl)) rfl ?_
              refine at_end ?_
              refine at_thn ?_
              refine at_ret ?_
              obtain rfl := Option.some.inj H
              refine at_drop (k := 0) rfl rfl ?_
              refine at_drop (k := 1) rfl rfl ?_
              refine at_drop (k := 1) rfl rfl ?_
              refine at_done (vs := [.agg #[.slice A385 (([b4] : List (List Int)) ++ b5).length c386, .int .i64 0]]) (obs := [fun w => CellsAt w ⟨g47, 0, none⟩ [.slice A385 (([b4] : List (List Int)) ++ b5).length c386, .int .i64 0] 0]) (.inl rfl) [.cell 4 38] [(4, .agg #[.slice A385 (([b4] : List (List Int)) ++ b5).length c386, .int .i64 0])] rfl (by kernel_rfl) (fun w hs => cellsV (k := 1) hs rfl _ 0 (Nat.le_of_ble_eq_true (by kernel_rfl)) rfl) (fun w hs => ⟨_, _, [s387], rfl, ⟨A385, c386, s387, rfl, rfl, ho388⟩, hle, (hs.tail (perm_at (k := 1) rfl))⟩)
          · refine at_xone (#[true, true, false, true, true, true, false, false, true, false]) (by kernel_rfl) rfl rfl ?_
            obtain ⟨b5, H392, H⟩ := bind_some H
            have hm_ := spec_l04CopyAll.calls (I0 := J257) H392 hr41
            refine eff_call rfl rfl ok44 rfl rfl (show Meets Try.prog 44 ([.slice A39 p38.Items.length c40] : List Value).toArray _ [] _ from hm_) (Mr := ([(g367, .cells #[.slice none ([] : List (List Int)).length 0, .int .i64 0] 38 (0, 0))] :: s263 :: [(g46, .cells #[.slice A39 p38.Items.length c40, .int .i64 p38.At] 38 (0, 0))] :: [(g47, .cells #[.slice none ([] : List (List Int)).length 0, .int .i64 0] 38 (0, 0))] :: Fs)) (List.Perm.refl _) (fun v393 J394 M395 hq396 hJ397 => ?_)
            replace hle := hle.trans hJ397
            replace ho264 := ho264.mono hJ397
            replace hr41 := hr41.mono hJ397
            replace hr45 := hr45.mono hJ397
            obtain ⟨A398, c399, s400, rfl, rfl, ho401⟩ := hq396
            refine at_xS (fun w hs => hs.var (k := 3) rfl 0 rfl) ?_
            refine at_x1 3 2 (#[true, true, true, true, true, true, false, false, true, false]) rfl (by kernel_rfl) (by kernel_rfl) rfl rfl ?_
            refine at_freeze (k := 2) rfl rfl (fun J402 hJ403 hin404 => ?_)
            replace hle := hle.trans hJ403
            replace ho264 := ho264.mono hJ403
            replace ho401 := ho401.mono hJ403
            replace hr41 := hr41.mono hJ403
            replace hr45 := hr45.mono hJ403
            have hr405 := ho264.rd (ImmLe.refl _) hin404
            refine eff_buildSlice (e := 23) (cells := #[.slice A261 b4.length c262]) ([b4] : List (List Int)).length rfl rfl rfl (by kernel_rfl) (fun g406 => ?_)
            have ho407 := own_lit (K := (Kd.slice (Kd.int .i64))) (e := 23) (I := J402) (xs := ([b4] : List (List Int))) (css := [[.slice A261 b4.length c262]]) (cells := #[.slice A261 b4.length c262]) (b := g406) ⟨⟨A261, c262, rfl, hr405⟩, trivial⟩ rfl
            refine at_xS (fun w hs => hs.var (k := 3) rfl 0 rfl) ?_
            refine at_x1 2 6 (#[true, true, true, true, true, true, true, false, true, false]) rfl (by kernel_rfl) (by kernel_rfl) rfl rfl ?_
            obtain ⟨h408, H⟩ := ite_some H
            obtain ⟨i_, hi_, hz_, hs_, hb_⟩ := info23
            refine eff_append (K := (Kd.slice (Kd.int .i64))) (xs := ([b4] : List (List Int))) (ys := b5) 0 rfl rfl rfl rfl rfl und34 und34 hi_ hz_ hs_ rfl rfl rfl ho407 rfl (fun w hs => ho401.rowAt (k := 1) hs rfl) (by rw [hb_]; omega) (by omega) (fun A409 c410 s411 ho412 => ?_)
            refine at_xX (by kernel_rfl) ?_
            refine at_xseg [7] 1 (#[true, true, true, true, true, true, true, true, true, false]) rfl (by kernel_rfl) [] [4, 5, 32] (L2 := [(4, .pointer (some ⟨g47, 0, none⟩)), (5, .pointer (some ⟨g367, 0, none⟩)), (32, .agg #[.slice A409 (([b4] : List (List Int)) ++ b5).length c410, .int .i64 0])]) (obs := []) (by kernel_rfl) (by kernel_rfl) (by kernel_rfl) (.inl (by kernel_rfl)) (fun w hS => trivial) (fun w hs => trivial) ?_
            refine at_x1 0 9 (#[true, true, true, true, true, true, true, true, true, true]) rfl (by kernel_rfl) (by kernel_rfl) rfl rfl ?_
            refine eff_store 2 rfl rfl rfl rfl rfl rfl (.inl (Nat.le_refl _)) rfl (Nat.le_of_ble_eq_true (by kernel_rfl)) rfl ?_
            refine at_xX (by kernel_rfl) ?_
            refine at_xend (by kernel_rfl) ?_
            refine at_thn ?_
            refine at_seq ?_
            refine at_seq ?_
            refine at_reg [(1, .slice A409 (([b4] : List (List Int)) ++ b5).length c410)] [4, 5, 36] (L2 := [(4, .pointer (some ⟨g47, 0, none⟩)), (5, .pointer (some ⟨g367, 0, none⟩)), (36, .bool (decide (((([b4] : List (List Int)) ++ b5).length : Int) > 10)))]) (obs := [fun w => w.cell? ⟨g367, 0, none⟩ = some (.slice A409 (([b4] : List (List Int)) ++ b5).length c410)]) (by kernel_rfl) ?_ ?_
            · intro w hs; exact hs.var (k := 2) rfl 0 rfl
            refine at_thn ?_
            by_cases h413 : ((([b4] : List (List Int)) ++ b5).length : Int) > 10
            · rw [if_pos h413] at H
              refine at_cond_t rfl (decide_eq_true h413) ?_
              refine at_ops [0, 1, 2, 3, 4] rfl ?_
              obtain ⟨h414, H⟩ := ite_some H
              have ho415 := ho412.take 10 (nat_le (by decide) h414)
              refine at_seg [0, 1, 2, 3] [4] rfl [(1, .slice A409 (([b4] : List (List Int)) ++ b5).length c410), (2, .slice A409 ((([b4] : List (List Int)) ++ b5).take 10).length c410)] [4, 5, 39, 40] (L2 := [(4, .pointer (some ⟨g47, 0, none⟩)), (5, .pointer (some ⟨g367, 0, none⟩)), (39, .slice A409 ((([b4] : List (List Int)) ++ b5).take 10).length c410), (40, .pointer (some ⟨g367, 0, none⟩))]) (obs := [fun w => w.cell? ⟨g367, 0, none⟩ = some (.slice A409 (([b4] : List (List Int)) ++ b5).length c410), fun _ => 0 ≤ (0 : Int) ∧ (0 : Int) ≤ (10 : Int) ∧ (10 : Int) ≤ ((c410 : Nat) : Int), fun _ => cutV A409 c410 1 0 10 = .slice A409 ((([b4] : List (List Int)) ++ b5).take 10).length c410]) (by kernel_rfl) ?_ ?_
              · intro w hs; exact ⟨hs.var (k := 2) rfl 0 rfl, ⟨Int.le_refl _, (by decide), Int.le_trans h414 (Int.ofNat_le.2 ho412.cap)⟩, cut_own ho412 (nat_le (by decide) h414)⟩
              refine at_eff rfl rfl ?_
              refine eff_store 2 rfl rfl rfl rfl rfl rfl (.inl (Nat.le_refl _)) rfl (Nat.le_of_ble_eq_true (by kernel_rfl)) rfl ?_
              refine at_end ?_
              refine at_thn ?_
              refine at_seq ?_
              refine at_ops [0, 1] rfl ?_
              refine at_seg [0] [1] rfl [(0, .agg #[.slice A409 ((([b4] : List (List Int)) ++ b5).take 10).length c410, .int .i64 0])] [4, 41] (L2 := [(4, .pointer (some ⟨g47, 0, none⟩)), (41, .agg #[.slice A409 ((([b4] : List (List Int)) ++ b5).take 10).length c410, .int .i64 0])]) (obs := [fun w => CellsAt w ⟨g367, 0, none⟩ [.slice A409 ((([b4] : List (List Int)) ++ b5).take 10).length c410, .int .i64 0] 0]) (by kernel_rfl) ?_ ?_
              · intro w hs; exact cellsV (k := 2) hs rfl _ 0 (Nat.le_of_ble_eq_true (by kernel_rfl)) rfl
              refine at_eff rfl rfl ?_
              refine eff_store 4 rfl rfl rfl rfl rfl rfl (.inl (Nat.le_refl _)) rfl (Nat.le_of_ble_eq_true (by kernel_rfl)) rfl ?_
              refine at_end ?_
              refine at_thn ?_
              refine at_ret ?_
              obtain rfl := Option.some.inj H
              refine at_drop (k := 1) rfl rfl ?_
              refine at_drop (k := 1) rfl rfl ?_
              refine at_drop (k := 1) rfl rfl ?_
              refine at_done (vs := [.agg #[.slice A409 ((([b4] : List (List Int)) ++ b5).take 10).length c410, .int .i64 0]]) (obs := [fun w => CellsAt w ⟨g47, 0, none⟩ [.slice A409 ((([b4] : List (List Int)) ++ b5).take 10).length c410, .int .i64 0] 0]) (.inl rfl) [.cell 4 38] [(4, .agg #[.slice A409 ((([b4] : List (List Int)) ++ b5).take 10).length c410, .int .i64 0])] rfl (by kernel_rfl) (fun w hs => cellsV (k := 1) hs rfl _ 0 (Nat.le_of_ble_eq_true (by kernel_rfl)) rfl) (fun w hs => ⟨_, _, [s411], rfl, ⟨A409, c410, s411, rfl, rfl, ho415⟩, hle, (hs.tail (perm_at (k := 1) rfl))⟩)
            · rw [if_neg h413] at H
              refine at_cond_f rfl (decide_eq_false h413) ?_
              refine at_skip ?_
              refine at_thn ?_
              refine at_seq ?_
              refine at_ops [0, 1] rfl ?_
              refine at_seg [0] [1] rfl [(0, .agg #[.slice A409 (([b4] : List (List Int)) ++ b5).length c410, .int .i64 0])] [4, 41] (L2 := [(4, .pointer (some ⟨g47, 0, none⟩)), (41, .agg #[.slice A409 (([b4] : List (List Int)) ++ b5).length c410, .int .i64 0])]) (obs := [fun w => CellsAt w ⟨g367, 0, none⟩ [.slice A409 (([b4] : List (List Int)) ++ b5).length c410, .int .i64 0] 0]) (by kernel_rfl) ?_ ?_
              · intro w hs; exact cellsV (k := 2) hs rfl _ 0 (Nat.le_of_ble_eq_true (by kernel_rfl)) rfl
              refine at_eff rfl rfl ?_
              refine eff_store 4 rfl rfl rfl rfl rfl rfl (.inl (Nat.le_refl _)) rfl (Nat.le_of_ble_eq_true (by kernel_rfl)) rfl ?_
              refine at_end ?_
              refine at_thn ?_
              refine at_ret ?_
              obtain rfl := Option.some.inj H
              refine at_drop (k := 1) rfl rfl ?_
              refine at_drop (k := 1) rfl rfl ?_
              refine at_drop (k := 1) rfl rfl ?_
              refine at_done (vs := [.agg #[.slice A409 (([b4] : List (List Int)) ++ b5).length c410, .int .i64 0]]) (obs := [fun w => CellsAt w ⟨g47, 0, none⟩ [.slice A409 (([b4] : List (List Int)) ++ b5).length c410, .int .i64 0] 0]) (.inl rfl) [.cell 4 38] [(4, .agg #[.slice A409 (([b4] : List (List Int)) ++ b5).length c410, .int .i64 0])] rfl (by kernel_rfl) (fun w hs => cellsV (k := 1) hs rfl _ 0 (Nat.le_of_ble_eq_true (by kernel_rfl)) rfl) (fun w hs => ⟨_, _, [s411], rfl, ⟨A409, c410, s411, rfl, rfl, ho412⟩, hle, (hs.tail (perm_at (k := 1) rfl))⟩)
      · refine at_xone (#[true, false, false, true, true, false, false, false, true, false]) (by kernel_rfl) rfl rfl ?_
        obtain ⟨i_, hi_, hz_, _, _⟩ := info38
        refine eff_alloc rfl rfl hi_ hz_ #[.slice none ([] : List (List Int)).length 0, .int .i64 0] rfl (fun g416 => ?_)
        refine at_xS (fun w hs => hs.var (k := 1) rfl 0 rfl) ?_
        refine at_x1 5 1 (#[true, true, false, true, true, false, false, false, true, false]) rfl (by kernel_rfl) (by kernel_rfl) rfl rfl ?_
        obtain ⟨b4, H417, H⟩ := bind_some H
        have hm_ := spec_l01Copy.calls (I0 := I) H417 hr45
        refine eff_call rfl rfl ok43 rfl rfl (show Meets Try.prog 43 ([.slice A43 p42.length c44] : List Value).toArray _ [] _ from hm_) (Mr := ([(g416, .cells #[.slice none ([] : List (List Int)).length 0, .int .i64 0] 38 (0, 0))] :: [(g46, .cells #[.slice A39 p38.Items.length c40, .int .i64 p38.At] 38 (0, 0))] :: [(g47, .cells #[.slice none ([] : List (List Int)).length 0, .int .i64 0] 38 (0, 0))] :: Fs)) (List.Perm.refl _) (fun v418 J419 M420 hq421 hJ422 => ?_)
        replace hle := hle.trans hJ422
        replace hr41 := hr41.mono hJ422
        replace hr45 := hr45.mono hJ422
        obtain ⟨A423, c424, s425, rfl, rfl, ho426⟩ := hq421
        refine at_xS (fun w hs => hs.var (k := 2) rfl 0 rfl) ?_
        refine at_xall (fuel := 4) [2, 5] (by kernel_rfl) (by simp) (List.forall_mem_cons.2 ⟨?_, (List.forall_mem_cons.2 ⟨?_, fun _ h => nomatch h⟩)⟩)
        · refine at_xone (#[true, true, true, true, true, false, false, false, true, false]) (by kernel_rfl) rfl rfl ?_
          refine at_freeze (k := 0) rfl rfl (fun J427 hJ428 hin429 => ?_)
          replace hle := hle.trans hJ428
          replace ho426 := ho426.mono hJ428
          replace hr41 := hr41.mono hJ428
          replace hr45 := hr45.mono hJ428
          have hr430 := ho426.rd (ImmLe.refl _) hin429
          refine eff_buildSlice (e := 23) (cells := #[.slice A423 b4.length c424]) ([b4] : List (List Int)).length rfl rfl rfl (by kernel_rfl) (fun g431 => ?_)
          have ho432 := own_lit (K := (Kd.slice (Kd.int .i64))) (e := 23) (I := J427) (xs := ([b4] : List (List Int))) (css := [[.slice A423 b4.length c424]]) (cells := #[.slice A423 b4.length c424]) (b := g431) ⟨⟨A423, c424, rfl, hr430⟩, trivial⟩ rfl
          refine at_xS (fun w hs => hs.var (k := 2) rfl 0 rfl) ?_
          refine at_x1 3 5 (#[true, true, true, true, true, true, false, false, true, false]) rfl (by kernel_rfl) (by kernel_rfl) rfl rfl ?_
          obtain ⟨b5, H433, H⟩ := bind_some H
          have hm_ := spec_l04CopyAll.calls (I0 := J427) H433 hr41
          refine eff_call rfl rfl ok44 rfl rfl (show Meets Try.prog 44 ([.slice A39 p38.Items.length c40] : List Value).toArray _ [] _ from hm_) (Mr := ([(g431, .cells #[.slice A423 b4.length c424] 23 (0, 0))] :: [(g416, .cells #[.slice none ([] : List (List Int)).length 0, .int .i64 0] 38 (0, 0))] :: [(g46, .cells #[.slice A39 p38.Items.length c40, .int .i64 p38.At] 38 (0, 0))] :: [(g47, .cells #[.slice none ([] : List (List Int)).length 0, .int .i64 0] 38 (0, 0))] :: Fs)) (List.Perm.refl _) (fun v434 J435 M436 hq437 hJ438 => ?_)
          replace hle := hle.trans hJ438
          replace ho432 := ho432.mono hJ438
          replace hr41 := hr41.mono hJ438
          replace hr430 := hr430.mono hJ438
          replace hr45 := hr45.mono hJ438
          obtain ⟨A439, c440, s441, rfl, rfl, ho442⟩ := hq437
          refine at_xS (fun w hs => hs.var (k := 3) rfl 0 rfl) ?_
          refine at_x1 2 6 (#[true, true, true, true, true, true, true, false, true, false]) rfl (by kernel_rfl) (by kernel_rfl) rfl rfl ?_
          obtain ⟨h443, H⟩ := ite_some H
          obtain ⟨i_, hi_, hz_, hs_, hb_⟩ := info23
          refine eff_append (K := (Kd.slice (Kd.int .i64))) (xs := ([b4] : List (List Int))) (ys := b5) 1 rfl rfl rfl rfl rfl und34 und34 hi_ hz_ hs_ rfl rfl rfl ho432 rfl (fun w hs => ho442.rowAt (k := 0) hs rfl) (by rw [hb_]; omega) (by omega) (fun A444 c445 s446 ho447 => ?_)
          refine at_xX (by kernel_rfl) ?_
          refine at_xseg [7] 1 (#[true, true, true, true, true, true, true, true, true, false]) rfl (by kernel_rfl) [] [4, 5, 32] (L2 := [(4, .pointer (some ⟨g47, 0, none⟩)), (5, .pointer (some ⟨g416, 0, none⟩)), (32, .agg #[.slice A444 (([b4] : List (List Int)) ++ b5).length c445, .int .i64 0])]) (obs := []) (by kernel_rfl) (by kernel_rfl) (by kernel_rfl) (.inl (by kernel_rfl)) (fun w hS => trivial) (fun w hs => trivial) ?_
          refine at_x1 0 9 (#[true, true, true, true, true, true, true, true, true, true]) rfl (by kernel_rfl) (by kernel_rfl) rfl rfl ?_
          refine eff_store 2 rfl rfl rfl rfl rfl rfl (.inl (Nat.le_refl _)) rfl (Nat.le_of_ble_eq_true (by kernel_rfl)) rfl ?_
          refine at_xX (by kernel_rfl) ?_
          refine at_xend (by kernel_rfl) ?_
          refine at_thn ?_
          refine at_seq ?_
          refine at_seq ?_
          refine at_reg [(1, .slice A444 (([b4] : List (List Int)) ++ b5).length c445)] [4, 5, 36] (L2 := [(4, .pointer (some ⟨g47, 0, none⟩)), (5, .pointer (some ⟨g416, 0, none⟩)), (36, .bool (decide (((([b4] : List (List Int)) ++ b5).length : Int) > 10)))]) (obs := [fun w => w.cell? ⟨g416, 0, none⟩ = some (.slice A444 (([b4] : List (List Int)) ++ b5).length c445)]) (by kernel_rfl) ?_ ?_
          · intro w hs; exact hs.var (k := 2) rfl 0 rfl
          refine at_thn ?_
          by_cases h448 : ((([b4] : List (List Int)) ++ b5).length : Int) > 10
          · rw [if_pos h448] at H
            refine at_cond_t rfl (decide_eq_true h448) ?_
            refine at_ops [0, 1, 2, 3, 4] rfl ?_
            obtain ⟨h449, H⟩ := ite_some H
            have ho450 := ho447.take 10 (nat_le (by decide) h449)
            refine at_seg [0, 1, 2, 3] [4] rfl [(1, .slice A444 (([b4] : List (List Int)) ++ b5).length c445), (2, .slice A444 ((([b4] : List (List Int)) ++ b5).take 10).length c445)] [4, 5, 39, 40] (L2 := [(4, .pointer (some ⟨g47, 0, none⟩)), (5, .pointer (some ⟨g416, 0, none⟩)), (39, .slice A444 ((([b4] : List (List Int)) ++ b5).take 10).length c445), (40, .pointer (some ⟨g416, 0, none⟩))]) (obs := [fun w => w.cell? ⟨g416, 0, none⟩ = some (.slice A444 (([b4] : List (List Int)) ++ b5).length c445), fun _ => 0 ≤ (0 : Int) ∧ (0 : Int) ≤ (10 : Int) ∧ (10 : Int) ≤ ((c445 : Nat) : Int), fun _ => cutV A444 c445 1 0 10 = .slice A444 ((([b4] : List (List Int)) ++ b5).take 10).length c445]) (by kernel_rfl) ?_ ?_
            · intro w hs; exact ⟨hs.var (k := 2) rfl 0 rfl, ⟨Int.le_refl _, (by decide), Int.le_trans h449 (Int.ofNat_le.2 ho447.cap)⟩, cut_own ho447 (nat_le (by decide) h449)⟩
            refine at_eff rfl rfl ?_
            refine eff_store 2 rfl rfl rfl rfl rfl rfl (.inl (Nat.le_refl _)) rfl (Nat.le_of_ble_eq_true (by kernel_rfl)) rfl ?_
            refine at_end ?_
            refine at_thn ?_
            refine at_seq ?_
            refine at_ops [0, 1] rfl ?_
            refine at_seg [0] [1] rfl [(0, .agg #[.slice A444 ((([b4] : List (List Int)) ++ b5).take 10).length c445, .int .i64 0])] [4, 41] (L2 := [(4, .pointer (some ⟨g47, 0, none⟩)), (41, .agg #[.slice A444 ((([b4] : List (List Int)) ++ b5).take 10).length c445, .int .i64 0])]) (obs := [fun w => CellsAt w ⟨g416, 0, none⟩ [.slice A444 ((([b4] : List (List Int)) ++ b5).take 10).length c445, .int .i64 0] 0]) (by kernel_rfl) ?_ ?_
            · intro w hs; exact cellsV (k := 2) hs rfl _ 0 (Nat.le_of_ble_eq_true (by kernel_rfl)) rfl
            refine at_eff rfl rfl ?_
            refine eff_store 4 rfl rfl rfl rfl rfl rfl (.inl (Nat.le_refl _)) rfl (Nat.le_of_ble_eq_true (by kernel_rfl)) rfl ?_
            refine at_end ?_
            refine at_thn ?_
            refine at_ret ?_
            obtain rfl := Option.some.inj H
            refine at_drop (k := 0) rfl rfl ?_
            refine at_drop (k := 1) rfl rfl ?_
            refine at_drop (k := 1) rfl rfl ?_
            refine at_done (vs := [.agg #[.slice A444 ((([b4] : List (List Int)) ++ b5).take 10).length c445, .int .i64 0]]) (obs := [fun w => CellsAt w ⟨g47, 0, none⟩ [.slice A444 ((([b4] : List (List Int)) ++ b5).take 10).length c445, .int .i64 0] 0]) (.inl rfl) [.cell 4 38] [(4, .agg #[.slice A444 ((([b4] : List (List Int)) ++ b5).take 10).length c445, .int .i64 0])] rfl (by kernel_rfl) (fun w hs => cellsV (k := 1) hs rfl _ 0 (Nat.le_of_ble_eq_true (by kernel_rfl)) rfl) (fun w hs => ⟨_, _, [s446], rfl, ⟨A444, c445, s446, rfl, rfl, ho450⟩, hle, (hs.tail (perm_at (k := 1) rfl))⟩)
          · rw [if_neg h448] at H
            refine at_cond_f rfl (decide_eq_false h448) ?_
            refine at_skip ?_
            refine at_thn ?_
            refine at_seq ?_
            refine at_ops [0, 1] rfl ?_
            refine at_seg [0] [1] rfl [(0, .agg #[.slice A444 (([b4] : List (List Int)) ++ b5).length c445, .int .i64 0])] [4, 41] (L2 := [(4, .pointer (some ⟨g47, 0, none⟩)), (41, .agg #[.slice A444 (([b4] : List (List Int)) ++ b5).length c445, .int .i64 0])]) (obs := [fun w => CellsAt w ⟨g416, 0, none⟩ [.slice A444 (([b4] : List (List Int)) ++ b5).length c445, .int .i64 0] 0]) (by kernel_rfl) ?_ ?_
            · intro w hs; exact cellsV (k := 2) hs rfl _ 0 (Nat.le_of_ble_eq_true (by kernel_rfl)) rfl
            refine at_eff rfl rfl ?_
            refine eff_store 4 rfl rfl rfl rfl rfl rfl (.inl (Nat.le_refl _)) rfl (Nat.le_of_ble_eq_true (by kernel_rfl)) rfl ?_
            refine at_end ?_
            refine at_thn ?_
            refine at_ret ?_
            obtain rfl := Option.some.inj H
            refine at_drop (k := 0) rfl rfl ?_
            refine at_drop (k := 1) rfl rfl ?_
            refine at_drop (k := 1) rfl rfl ?_
            refine at_done (vs := [.agg #[.slice A444 (([b4] : List (List Int)) ++ b5).length c445, .int .i64 0]]) (obs := [fun w => CellsAt w ⟨g47, 0, none⟩ [.slice A444 (([b4] : List (List Int)) ++ b5).length c445, .int .i64 0] 0]) (.inl rfl) [.cell 4 38] [(4, .agg #[.slice A444 (([b4] : List (List Int)) ++ b5).length c445, .int .i64 0])] rfl (by kernel_rfl) (fun w hs => cellsV (k := 1) hs rfl _ 0 (Nat.le_of_ble_eq_true (by kernel_rfl)) rfl) (fun w hs => ⟨_, _, [s446], rfl, ⟨A444, c445, s446, rfl, rfl, ho447⟩, hle, (hs.tail (perm_at (k := 1) rfl))⟩)
        · refine at_xone (#[true, true, false, true, true, true, false, false, true, false]) (by kernel_rfl) rfl rfl ?_
          obtain ⟨b5, H451, H⟩ := bind_some H
          have hm_ := spec_l04CopyAll.calls (I0 := J419) H451 hr41
          refine eff_call rfl rfl ok44 rfl rfl (show Meets Try.prog 44 ([.slice A39 p38.Items.length c40] : List Value).toArray _ [] _ from hm_) (Mr := (s425 :: [(g416, .cells #[.slice none ([] : List (List Int)).length 0, .int .i64 0] 38 (0, 0))] :: [(g46, .cells #[.slice A39 p38.Items.length c40, .int .i64 p38.At] 38 (0, 0))] :: [(g47, .cells #[.slice none ([] : List (List Int)).length 0, .int .i64 0] 38 (0, 0))] :: Fs)) (List.Perm.refl _) (fun v452 J453 M454 hq455 hJ456 => ?_)
          replace hle := hle.trans hJ456
          replace ho426 := ho426.mono hJ456
          replace hr41 := hr41.mono hJ456
          replace hr45 := hr45.mono hJ456
          obtain ⟨A457, c458, s459, rfl, rfl, ho460⟩ := hq455
          refine at_xS (fun w hs => hs.var (k := 3) rfl 0 rfl) ?_
          refine at_x1 3 2 (#[true, true, true, true, true, true, false, false, true, false]) rfl (by kernel_rfl) (by kernel_rfl) rfl rfl ?_
          refine at_freeze (k := 1) rfl rfl (fun J461 hJ462 hin463 => ?_)
          replace hle := hle.trans hJ462
          replace ho426 := ho426.mono hJ462
          replace ho460 := ho460.mono hJ462
          replace hr41 := hr41.mono hJ462
          replace hr45 := hr45.mono hJ462
          have hr464 := ho426.rd (ImmLe.refl _) hin463
          refine eff_buildSlice (e := 23) (cells := #[.slice A423 b4.length c424]) ([b4] : List (List Int)).length rfl rfl rfl (by kernel_rfl) (fun g465 => ?_)
          have ho466 := own_lit (K := (Kd.slice (Kd.int .i64))) (e := 23) (I := J461) (xs := ([b4] : List (List Int))) (css := [[.slice A423 b4.length c424]]) (cells := #[.slice A423 b4.length c424]) (b := g465) ⟨⟨A423, c424, rfl, hr464⟩, trivial⟩ rfl
          refine at_xS (fun w hs => hs.var (k := 3) rfl 0 rfl) ?_
          refine at_x1 2 6 (#[true, true, true, true, true, true, true, false, true, false]) rfl (by kernel_rfl) (by kernel_rfl) rfl rfl ?_
          obtain ⟨h467, H⟩ := ite_some H
          obtain ⟨i_, hi_, hz_, hs_, hb_⟩ := info23
          refine eff_append (K := (Kd.slice (Kd.int .i64))) (xs := ([b4] : List (List Int))) (ys := b5) 0 rfl rfl rfl rfl rfl und34 und34 hi_ hz_ hs_ rfl rfl rfl ho466 rfl (fun w hs => ho460.rowAt (k := 1) hs rfl) (by rw [hb_]; omega) (by omega) (fun A468 c469 s470 ho471 => ?_)
          refine at_xX (by kernel_rfl) ?_
          refine at_xseg [7] 1 (#[true, true, true, true, true, true, true, true, true, false]) rfl (by kernel_rfl) [] [4, 5, 32] (L2 := [(4, .pointer (some ⟨g47, 0, none⟩)), (5, .pointer (some ⟨g416, 0, none⟩)), (32, .agg #[.slice A468 (([b4] : List (List Int)) ++ b5).length c469, .int .i64 0])]) (obs := []) (by kernel_rfl) (by kernel_rfl) (by kernel_rfl) (.inl (by kernel_rfl)) (fun w hS => trivial) (fun w hs => trivial) ?_
          refine at_x1 0 9 (#[true, true, true, true, true, true, true, true, true, true]) rfl (by kernel_rfl) (by kernel_rfl) rfl rfl ?_
          refine eff_store 2 rfl rfl rfl rfl rfl rfl (.inl (Nat.le_refl _)) rfl (Nat.le_of_ble_eq_true (by kernel_rfl)) rfl ?_
          refine at_xX (by kernel_rfl) ?_
          refine at_xend (by kernel_rfl) ?_
          refine at_thn ?_
          refine at_seq ?_
          refine at_seq ?_
          refine at_reg [(1, .slice A468 (([b4] : List (List Int)) ++ b5).length c469)] [4, 5, 36] (L2 := [(4, .pointer (some ⟨g47, 0, none⟩)), (5, .pointer (some ⟨g416, 0, none⟩)), (36, .bool (decide (((([b4] : List (List Int)) ++ b5).length : Int) > 10)))]) (obs := [fun w => w.cell? ⟨g416, 0, none⟩ = some (.slice A468 (([b4] : List (List Int)) ++ b5).length c469)]) (by kernel_rfl) ?_ ?_
          · intro w hs; exact hs.var (k := 2) rfl 0 rfl
          refine at_thn ?_
          by_cases h472 : ((([b4] : List (List Int)) ++ b5).length : Int) > 10
          · rw [if_pos h472] at H
            refine at_cond_t rfl (decide_eq_true h472) ?_
            refine at_ops [0, 1, 2, 3, 4] rfl ?_
            obtain ⟨h473, H⟩ := ite_some H
            have ho474 := ho471.take 10 (nat_le (by decide) h473)
            refine at_seg [0, 1, 2, 3] [4] rfl [(1, .slice A468 (([b4] : List (List Int)) ++ b5).length c469), (2, .slice A468 ((([b4] : List (List Int)) ++ b5).take 10).length c469)] [4, 5, 39, 40] (L2 := [(4, .pointer (some ⟨g47, 0, none⟩)), (5, .pointer (some ⟨g416, 0, none⟩)), (39, .slice A468 ((([b4] : List (List Int)) ++ b5).take 10).length c469), (40, .pointer (some ⟨g416, 0, none⟩))]) (obs := [fun w => w.cell? ⟨g416, 0, none⟩ = some (.slice A468 (([b4] : List (List Int)) ++ b5).length c469), fun _ => 0 ≤ (0 : Int) ∧ (0 : Int) ≤ (10 : Int) ∧ (10 : Int) ≤ ((c469 : Nat) : Int), fun _ => cutV A468 c469 1 0 10 = .slice A468 ((([b4] : List (List Int)) ++ b5).take 10).length c469]) (by kernel_rfl) ?_ ?_
            · intro w hs; exact ⟨hs.var (k := 2) rfl 0 rfl, ⟨Int.le_refl _, (by decide), Int.le_trans h473 (Int.ofNat_le.2 ho471.cap)⟩, cut_own ho471 (nat_le (by decide) h473)⟩
            refine at_eff rfl rfl ?_
            refine eff_store 2 rfl rfl rfl rfl rfl rfl (.inl (Nat.le_refl _)) rfl (Nat.le_of_ble_eq_true (by kernel_rfl)) rfl ?_
            refine at_end ?_
            refine at_thn ?_
            refine at_seq ?_
            refine at_ops [0, 1] rfl ?_
            refine at_seg [0] [1] rfl [(0, .agg #[.slice A468 ((([b4] : List (List Int)) ++ b5).take 10).length c469, .int .i64 0])] [4, 41] (L2 := [(4, .pointer (some ⟨g47, 0, none⟩)), (41, .agg #[.slice A468 ((([b4] : List (List Int)) ++ b5).take 10).length c469, .int .i64 0])]) (obs := [fun w => CellsAt w ⟨g416, 0, none⟩ [.slice A468 ((([b4] : List (List Int)) ++ b5).take 10).length c469, .int .i64 0] 0]) (by kernel_rfl) ?_ ?_
            · intro w hs; exact cellsV (k := 2) hs rfl _ 0 (Nat.le_of_ble_eq_true (by kernel_rfl)) rfl
            refine at_eff rfl rfl ?_
            refine eff_store 4 rfl rfl rfl rfl rfl rfl (.inl (Nat.le_refl _)) rfl (Nat.le_of_ble_eq_true (by kernel_rfl)) rfl ?_
            refine at_end ?_
            refine at_thn ?_
            refine at_ret ?_
            obtain rfl := Option.some.inj H
            refine at_drop (k := 1) rfl rfl ?_
            refine at_drop (k := 1) rfl rfl ?_
            refine at_drop (k := 1) rfl rfl ?_
            refine at_done (vs := [.agg #[.slice A468 ((([b4] : List (List Int)) ++ b5).take 10).length c469, .int .i64 0]]) (obs := [fun w => CellsAt w ⟨g47, 0, none⟩ [.slice A468 ((([b4] : List (List Int)) ++ b5).take 10).length c469, .int .i64 0] 0]) (.inl rfl) [.cell 4 38] [(4, .agg #[.slice A468 ((([b4] : List (List Int)) ++ b5).take 10).length c469, .int .i64 0])] rfl (by kernel_rfl) (fun w hs => cellsV (k := 1) hs rfl _ 0 (Nat.le_of_ble_eq_true (by kernel_rfl)) rfl) (fun w hs => ⟨_, _, [s470], rfl, ⟨A468, c469, s470, rfl, rfl, ho474⟩, hle, (hs.tail (perm_at (k := 1) rfl))⟩)
          · rw [if_neg h472] at H
            refine at_cond_f rfl (decide_eq_false h472) ?_
            refine at_skip ?_
            refine at_thn ?_
            refine at_seq ?_
            refine at_ops [0, 1] rfl ?_
            refine at_seg [0] [1] rfl [(0, .agg #[.slice A468 (([b4] : List (List Int)) ++ b5).length c469, .int .i64 0])] [4, 41] (L2 := [(4, .pointer (some ⟨g47, 0, none⟩)), (41, .agg #[.slice A468 (([b4] : List (List Int)) ++ b5).length c469, .int .i64 0])]) (obs := [fun w => CellsAt w ⟨g416, 0, none⟩ [.slice A468 (([b4] : List (List Int)) ++ b5).length c469, .int .i64 0] 0]) (by kernel_rfl) ?_ ?_
            · intro w hs; exact cellsV (k := 2) hs rfl _ 0 (Nat.le_of_ble_eq_true (by kernel_rfl)) rfl
            refine at_eff rfl rfl ?_
            refine eff_store 4 rfl rfl rfl rfl rfl rfl (.inl (Nat.le_refl _)) rfl (Nat.le_of_ble_eq_true (by kernel_rfl)) rfl ?_
            refine at_end ?_
            refine at_thn ?_
            refine at_ret ?_
            obtain rfl := Option.some.inj H
            refine at_drop (k := 1) rfl rfl ?_
            refine at_drop (k := 1) rfl rfl ?_
            refine at_drop (k := 1) rfl rfl ?_
            refine at_done (vs := [.agg #[.slice A468 (([b4] : List (List Int)) ++ b5).length c469, .int .i64 0]]) (obs := [fun w => CellsAt w ⟨g47, 0, none⟩ [.slice A468 (([b4] : List (List Int)) ++ b5).length c469, .int .i64 0] 0]) (.inl rfl) [.cell 4 38] [(4, .agg #[.slice A468 (([b4] : List (List Int)) ++ b5).length c469, .int .i64 0])] rfl (by kernel_rfl) (fun w hs => cellsV (k := 1) hs rfl _ 0 (Nat.le_of_ble_eq_true (by kernel_rfl)) rfl) (fun w hs => ⟨_, _, [s470], rfl, ⟨A468, c469, s470, rfl, rfl, ho471⟩, hle, (hs.tail (perm_at (k := 1) rfl))⟩)
    · intro Jn50
      refine at_join (fun L I Ms => ∃ (k577 : Nat), ∃ (x576 : Bool), L = [(1, .slice A43 p42.length c44), (2, .pointer (some ⟨g46, 0, none⟩)), (4, .pointer (some ⟨g47, 0, none⟩)), (22, .bool x576)] ∧ Ms = ([(g46, .cells #[.slice A39 p38.Items.length c40, .int .i64 p38.At] 38 (0, 0))] :: [(g47, .cells #[.slice none ([] : List (List Int)).length 0, .int .i64 0] 38 (0, 0))] :: Fs) ∧ spec_RingPush_j2 k577 x576 p38 p42 = some r ∧ ImmLe I0 I ∧ k577 ≤ k ∧ Rd (Kd.slice (Kd.int .i64)) I A39 c40 p38.Items ∧ Rd (Kd.int .i64) I A43 c44 p42) ?_ ?_
      · clear H hle hr41 hr45
        intro L I Ms h_; obtain ⟨k577, x576, hL_, hM_, H, hle, hk578, hr41, hr45⟩ := h_; rw [hL_, hM_]; clear hL_ hM_ L Ms
        rcases k577 with _ | k577
        · exact (no_none H).elim
        rw [spec_RingPush_j2] at H
        by_cases h579 : x576 = true
        · rw [if_pos h579] at H
          refine at_cond_t rfl (h579) ?_
          refine at_seq ?_
          refine at_ops [0, 1, 2] rfl ?_
          refine at_seg [0] [1, 2] rfl [(0, .agg #[.slice A39 p38.Items.length c40, .int .i64 p38.At])] [4, 23] (L2 := [(4, .pointer (some ⟨g47, 0, none⟩)), (23, .agg #[.slice A39 p38.Items.length c40, .int .i64 p38.At])]) (obs := [fun w => CellsAt w ⟨g46, 0, none⟩ [.slice A39 p38.Items.length c40, .int .i64 p38.At] 0]) (by kernel_rfl) ?_ ?_
          · intro w hs; exact cellsV (k := 0) hs rfl _ 0 (Nat.le_of_ble_eq_true (by kernel_rfl)) rfl
          refine at_eff rfl rfl ?_
          obtain ⟨b6, H580, H⟩ := bind_some H
          have hm_ := spec_l04Copy.calls (I0 := I) H580 hr41
          refine eff_call rfl rfl ok42 rfl rfl (show Meets Try.prog 42 ([.agg #[.slice A39 p38.Items.length c40, .int .i64 p38.At]] : List Value).toArray _ [] _ from hm_) (Mr := ([(g46, .cells #[.slice A39 p38.Items.length c40, .int .i64 p38.At] 38 (0, 0))] :: [(g47, .cells #[.slice none ([] : List (List Int)).length 0, .int .i64 0] 38 (0, 0))] :: Fs)) (List.Perm.refl _) (fun v581 J582 M583 hq584 hJ585 => ?_)
          replace hle := hle.trans hJ585
          replace hr41 := hr41.mono hJ585
          obtain ⟨A586, c587, s588, rfl, rfl, ho589⟩ := hq584
          refine at_eff rfl rfl ?_
          refine eff_store 2 rfl rfl rfl rfl rfl rfl (.inl (Nat.le_refl _)) rfl (Nat.le_of_ble_eq_true (by kernel_rfl)) rfl ?_
          refine at_end ?_
          refine at_thn ?_
          refine at_ret ?_
          refine at_then_ret ?_
          obtain rfl := Option.some.inj H
          refine at_drop (k := 1) rfl rfl ?_
          refine at_done (vs := [.agg #[.slice A586 b6.Items.length c587, .int .i64 b6.At]]) (obs := [fun w => CellsAt w ⟨g47, 0, none⟩ [.slice A586 b6.Items.length c587, .int .i64 b6.At] 0]) (.inl rfl) [.cell 4 38] [(4, .agg #[.slice A586 b6.Items.length c587, .int .i64 b6.At])] rfl (by kernel_rfl) (fun w hs => cellsV (k := 1) hs rfl _ 0 (Nat.le_of_ble_eq_true (by kernel_rfl)) rfl) (fun w hs => ⟨_, _, [s588], rfl, ⟨A586, c587, s588, rfl, rfl, ho589⟩, hle, (hs.tail (perm_at (k := 1) rfl))⟩)
        · rw [if_neg h579] at H
          refine at_cond_f rfl (ff_of h579) ?_
          refine at_skip ?_
          refine at_thn ?_
          refine at_keep [1, 2, 4] (L2 := [(1, .slice A43 p42.length c44), (2, .pointer (some ⟨g46, 0, none⟩)), (4, .pointer (some ⟨g47, 0, none⟩))]) rfl ?_
          exact Jn50 _ _ _ ⟨_, rfl, rfl, H, hle, by omega, hr41, hr45⟩
      · intro Jn475
        refine at_ops [0, 1, 2, 3, 4, 5, 6, 7, 8, 9, 10, 11, 12] rfl ?_
        refine at_seg [0] [1, 2, 3, 4, 5, 6, 7, 8, 9, 10, 11, 12] rfl [(0, .agg #[.slice A39 p38.Items.length c40, .int .i64 p38.At])] [1, 2, 4, 10] (L2 := [(1, .slice A43 p42.length c44), (2, .pointer (some ⟨g46, 0, none⟩)), (4, .pointer (some ⟨g47, 0, none⟩)), (10, .agg #[.slice A39 p38.Items.length c40, .int .i64 p38.At])]) (obs := [fun w => CellsAt w ⟨g46, 0, none⟩ [.slice A39 p38.Items.length c40, .int .i64 p38.At] 0]) (by kernel_rfl) ?_ ?_
        · intro w hs; exact cellsV (k := 1) hs rfl _ 0 (Nat.le_of_ble_eq_true (by kernel_rfl)) rfl
        refine at_eff rfl rfl ?_
        obtain ⟨b7, H590, H⟩ := bind_some H
        have hm_ := spec_RingRight.calls (I0 := I0) H590 hr41
        refine eff_call rfl rfl ok24 rfl rfl (show Meets Try.prog 24 ([.agg #[.slice A39 p38.Items.length c40, .int .i64 p38.At]] : List Value).toArray _ [] _ from hm_) (Mr := ([(g47, .cells #[.slice none ([] : List (List Int)).length 0, .int .i64 0] 38 (0, 0))] :: [(g46, .cells #[.slice A39 p38.Items.length c40, .int .i64 p38.At] 38 (0, 0))] :: Fs)) (List.Perm.refl _) (fun v591 J592 M593 hq594 hJ595 => ?_)
        replace hle := hle.trans hJ595
        replace hr41 := hr41.mono hJ595
        replace hr45 := hr45.mono hJ595
        obtain ⟨rfl, rfl⟩ := hq594
        by_cases h596 : b7 = true
        · rw [if_pos h596] at H
          refine at_seg [2, 3, 4] [5, 6, 7, 8, 9, 10, 11, 12] rfl [(3, .bool false)] [1, 2, 4, 13, 14] (L2 := [(1, .slice A43 p42.length c44), (2, .pointer (some ⟨g46, 0, none⟩)), (4, .pointer (some ⟨g47, 0, none⟩)), (13, .bool false), (14, .slice A43 p42.length c44)]) (obs := [fun _ => (.bool (!b7) : Value) = .bool false]) (by kernel_rfl) ?_ ?_
          · intro w hs; exact congrArg Value.bool (not_ff (h596))
          refine at_eff rfl rfl ?_
          obtain ⟨b8, H597, H⟩ := bind_some H
          have hm_ := spec_PointsRight.calls (I0 := J592) H597 hr45
          refine eff_call rfl rfl ok25 rfl rfl (show Meets Try.prog 25 ([.slice A43 p42.length c44] : List Value).toArray _ [] _ from hm_) (Mr := ([(g47, .cells #[.slice none ([] : List (List Int)).length 0, .int .i64 0] 38 (0, 0))] :: [(g46, .cells #[.slice A39 p38.Items.length c40, .int .i64 p38.At] 38 (0, 0))] :: Fs)) (List.Perm.refl _) (fun v598 J599 M600 hq601 hJ602 => ?_)
          replace hle := hle.trans hJ602
          replace hr41 := hr41.mono hJ602
          replace hr45 := hr45.mono hJ602
          obtain ⟨rfl, rfl⟩ := hq601
          by_cases h603 : b8 = true
          · rw [if_pos h603] at H
            refine at_seg [6, 7, 8, 9, 10, 11, 12] [] rfl [(8, .bool false)] [1, 2, 4, 22] (L2 := [(1, .slice A43 p42.length c44), (2, .pointer (some ⟨g46, 0, none⟩)), (4, .pointer (some ⟨g47, 0, none⟩)), (22, .bool ((p42.length : Int) == 0))]) (obs := [fun _ => (.bool (!b8) : Value) = .bool false]) (by kernel_rfl) ?_ ?_
            · intro w hs; exact congrArg Value.bool (not_ff (h603))
            refine at_end ?_
            refine at_thn ?_
            refine at_perm ((perm_at (k := 1) rfl).trans ((List.Perm.refl _).cons _)) ?_
            refine at_keep [1, 2, 4, 22] (L2 := [(1, .slice A43 p42.length c44), (2, .pointer (some ⟨g46, 0, none⟩)), (4, .pointer (some ⟨g47, 0, none⟩)), (22, .bool ((p42.length : Int) == 0))]) rfl ?_
            exact Jn475 _ _ _ ⟨_, ((p42.length : Int) == 0), rfl, rfl, H, hle, by omega, hr41, hr45⟩
          · rw [if_neg h603] at H
            refine at_seg [6, 7, 8, 9, 10, 11, 12] [] rfl [(8, .bool true)] [1, 2, 4, 22] (L2 := [(1, .slice A43 p42.length c44), (2, .pointer (some ⟨g46, 0, none⟩)), (4, .pointer (some ⟨g47, 0, none⟩)), (22, .bool true)]) (obs := [fun _ => (.bool (!b8) : Value) = .bool true]) (by kernel_rfl) ?_ ?_
            · intro w hs; exact congrArg Value.bool (not_tt (ff_of h603))
            refine at_end ?_
            refine at_thn ?_
            refine at_perm ((perm_at (k := 1) rfl).trans ((List.Perm.refl _).cons _)) ?_
            refine at_keep [1, 2, 4, 22] (L2 := [(1, .slice A43 p42.length c44), (2, .pointer (some ⟨g46, 0, none⟩)), (4, .pointer (some ⟨g47, 0, none⟩)), (22, .bool true)]) rfl ?_
            exact Jn475 _ _ _ ⟨_, true, rfl, rfl, H, hle, by omega, hr41, hr45⟩
        · rw [if_neg h596] at H
          refine at_seg [2, 3, 4] [5, 6, 7, 8, 9, 10, 11, 12] rfl [(3, .bool true)] [1, 2, 4, 13, 14] (L2 := [(1, .slice A43 p42.length c44), (2, .pointer (some ⟨g46, 0, none⟩)), (4, .pointer (some ⟨g47, 0, none⟩)), (13, .bool true), (14, undef)]) (obs := [fun _ => (.bool (!b7) : Value) = .bool true]) (by kernel_rfl) ?_ ?_
          · intro w hs; exact congrArg Value.bool (not_tt (ff_of h596))
          refine at_seg [5, 6, 7, 8, 9, 10, 11, 12] [] rfl [] [1, 2, 4, 22] (L2 := [(1, .slice A43 p42.length c44), (2, .pointer (some ⟨g46, 0, none⟩)), (4, .pointer (some ⟨g47, 0, none⟩)), (22, .bool true)]) (obs := []) (by kernel_rfl) ?_ ?_
          · intro w hs; exact trivial
          refine at_end ?_
          refine at_thn ?_
          refine at_perm ((perm_at (k := 1) rfl).trans ((List.Perm.refl _).cons _)) ?_
          refine at_keep [1, 2, 4, 22] (L2 := [(1, .slice A43 p42.length c44), (2, .pointer (some ⟨g46, 0, none⟩)), (4, .pointer (some ⟨g47, 0, none⟩)), (22, .bool true)]) rfl ?_
          exact Jn475 _ _ _ ⟨_, true, rfl, rfl, H, hle, by omega, hr41, hr45⟩
end Go.Proofs.Ytocfakbgefdgkaa
