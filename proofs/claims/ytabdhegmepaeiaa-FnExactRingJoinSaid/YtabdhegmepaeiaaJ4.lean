import Derived.Test.YtabdhegmepaeiaaJ3
namespace Go.Proofs.Ytabdhegmepaeiaa
open Go Eng
set_option linter.unusedVariables false
set_option linter.unusedSimpArgs false
/-! ### loop.example/g00146/spec.RingJoin: function 25 -/
mutual
def spec_RingJoin_j3 : Nat → Bool → T_impl_Ring → (List Int) → Bool → Option T_impl_Ring
  | 0, _, _, _, _ => none
  | k + 1, x552, p39, p43, p47 => if x552 = true then ((spec_l04Copy k p39).bind fun b8 => (some b8)) else (spec_RingJoin_j0 k p39 p43 p47)
def spec_RingJoin_j0 : Nat → T_impl_Ring → (List Int) → Bool → Option T_impl_Ring
  | 0, _, _, _ => none
  | k + 1, p39, p43, p47 => if (p39.Items.length : Int) = 0 then (spec_RingJoin_j2 k true p39 p43 p47) else (if 0 < (p39.Items.length : Int) then (spec_RingJoin_j2 k (decide ((IntKind.i64.wrap (((rdA [] p39.Items 0).length : Int) + (p43.length : Int))) > 300)) p39 p43 p47) else none)
def spec_RingJoin_j2 : Nat → Bool → T_impl_Ring → (List Int) → Bool → Option T_impl_Ring
  | 0, _, _, _, _ => none
  | k + 1, x429, p39, p43, p47 => if x429 = true then ((spec_RingPush k p39 p43).bind fun b7 => (some b7)) else (spec_RingJoin_j1 k p39 p43 p47)
def spec_RingJoin_j1 : Nat → T_impl_Ring → (List Int) → Bool → Option T_impl_Ring
  | 0, _, _, _ => none
  | k + 1, p39, p43, p47 => (spec_l04Copy k p39).bind fun b4 => (if p47 = true then (if 0 < (p39.Items.length : Int) then ((spec_l01Copy p43).bind fun b5 => (if b5.length + (rdA [] p39.Items 0).length ≤ 17592186044416 then (if 0 < (b4.Items.length : Int) then (some (⟨b4.Items.set (0 : Int).toNat (b5 ++ rdA [] p39.Items 0), 0⟩ : T_impl_Ring)) else none) else none)) else none) else (if 0 < (p39.Items.length : Int) then ((spec_l01Copy (rdA [] p39.Items 0)).bind fun b6 => (if b6.length + p43.length ≤ 17592186044416 then (if 0 < (b4.Items.length : Int) then (some (⟨b4.Items.set (0 : Int).toNat (b6 ++ p43), 0⟩ : T_impl_Ring)) else none) else none)) else none))
end
def spec_RingJoin (k : Nat) (p39 : T_impl_Ring) (p43 : List Int) (p47 : Bool) : Option T_impl_Ring := if (p43.length : Int) > 400 then (some (⟨([] : List (List Int)), 0⟩ : T_impl_Ring)) else ((spec_RingRight k p39).bind fun b9 => (if b9 = true then ((spec_PointsRight k p43).bind fun b10 => (if b10 = true then (spec_RingJoin_j3 k ((p43.length : Int) == 0) p39 p43 p47) else (spec_RingJoin_j3 k true p39 p43 p47))) else (spec_RingJoin_j3 k true p39 p43 p47)))
set_option maxHeartbeats 4000000 in
set_option maxRecDepth 100000 in
theorem spec_RingJoin.calls {k : Nat} {p39 : T_impl_Ring} {p43 : List Int} {p47 : Bool} {r : T_impl_Ring} {I0 : Imm} {A40 : Option Addr} {c41 : Nat} {A44 : Option Addr} {c45 : Nat} (H : spec_RingJoin k p39 p43 p47 = some r) (hr42 : Rd (Kd.slice (Kd.int .i64)) I0 A40 c41 p39.Items) (hr46 : Rd (Kd.int .i64) I0 A44 c45 p43) :
    Meets Try.prog 25 ([.agg #[.slice A40 p39.Items.length c41, .int .i64 p39.At], .slice A44 p43.length c45, .bool p47] : List Value).toArray I0 [] (fun v J M => ∃ (A_1 : Option Addr) (c_2 : Nat) (s_3 : Seg), v = .agg #[.slice A_1 r.Items.length c_2, .int .i64 r.At] ∧ M = [s_3] ∧ DOwn (DK.sl (Kd.int .i64) 2) 25 J A_1 c_2 r.Items s_3) := by
  have hle := ImmLe.refl I0
  unfold spec_RingJoin at H
  refine fn_intro (fn := Try.f25) 70 Try.func25 rfl rfl rfl (fun E Fs => ?_)
  refine at_seq ?_
  refine at_ops [0, 1] rfl ?_
  refine at_eff rfl rfl ?_
  refine eff_box rfl rfl rfl #[.slice A40 p39.Items.length c41, .int .i64 p39.At] rfl (fun g48 => ?_)
  refine at_eff rfl rfl ?_
  obtain ⟨i_, hi_, hz_, _, _⟩ := info27
  refine eff_alloc rfl rfl hi_ hz_ #[.slice none ([] : List (List Int)).length 0, .int .i64 0] rfl (fun g49 => ?_)
  refine at_end ?_
  refine at_thn ?_
  refine at_seq ?_
  refine at_seq ?_
  refine at_reg [] [1, 2, 3, 6, 10] (L2 := [(1, .slice A44 p43.length c45), (2, .bool p47), (3, .pointer (some ⟨g48, 0, none⟩)), (6, .pointer (some ⟨g49, 0, none⟩)), (10, .bool (decide ((p43.length : Int) > 400)))]) (obs := []) (by kernel_rfl) ?_ ?_
  · intro w hs; exact trivial
  refine at_thn ?_
  by_cases h50 : (p43.length : Int) > 400
  · rw [if_pos h50] at H
    refine at_cond_t rfl (decide_eq_true h50) ?_
    refine at_seq ?_
    refine at_ops [0, 1] rfl ?_
    refine at_seg [0] [1] rfl [] [6, 11] (L2 := [(6, .pointer (some ⟨g49, 0, none⟩)), (11, .agg #[.slice none ([] : List (List Int)).length 0, .int .i64 0])]) (obs := []) (by kernel_rfl) ?_ ?_
    · intro w hs; exact trivial
    refine at_eff rfl rfl ?_
    refine eff_store 0 rfl rfl rfl rfl rfl rfl (.inl (Nat.le_refl _)) rfl (Nat.le_of_ble_eq_true (by kernel_rfl)) rfl ?_
    refine at_end ?_
    refine at_thn ?_
    refine at_ret ?_
    refine at_then_ret ?_
    refine at_nilseg ?_
    have hd51 := DOwn.nil (DK.sl (Kd.int .i64) 2) 25 I0
    obtain rfl := Option.some.inj H
    refine at_drop (k := 2) rfl rfl ?_
    refine at_done (vs := [.agg #[.slice none ([] : List (List Int)).length 0, .int .i64 0]]) (obs := [fun w => CellsAt w ⟨g49, 0, none⟩ [.slice none ([] : List (List Int)).length 0, .int .i64 0] 0]) (.inl rfl) [.cell 6 27] [(6, .agg #[.slice none ([] : List (List Int)).length 0, .int .i64 0])] rfl (by kernel_rfl) (fun w hs => cellsV (k := 1) hs rfl _ 0 (Nat.le_of_ble_eq_true (by kernel_rfl)) rfl) (fun w hs => ⟨_, _, [[]], rfl, ⟨none, 0, [], rfl, rfl, hd51⟩, hle, (hs.tail (perm_at (k := 1) rfl))⟩)
  · rw [if_neg h50] at H
    refine at_cond_f rfl (decide_eq_false h50) ?_
    refine at_skip ?_
    refine at_thn ?_
    refine at_join (fun L I Ms => ∃ (k153 : Nat), L = [(1, .slice A44 p43.length c45), (2, .bool p47), (3, .pointer (some ⟨g48, 0, none⟩)), (6, .pointer (some ⟨g49, 0, none⟩))] ∧ Ms = ([(g48, .cells #[.slice A40 p39.Items.length c41, .int .i64 p39.At] 27 (0, 0))] :: [(g49, .cells #[.slice none ([] : List (List Int)).length 0, .int .i64 0] 27 (0, 0))] :: Fs) ∧ spec_RingJoin_j0 k153 p39 p43 p47 = some r ∧ ImmLe I0 I ∧ k153 ≤ k ∧ Rd (Kd.slice (Kd.int .i64)) I A40 c41 p39.Items ∧ Rd (Kd.int .i64) I A44 c45 p43) ?_ ?_
    · clear H hle hr42 hr46
      intro L I Ms h_; obtain ⟨k153, hL_, hM_, H, hle, hk154, hr42, hr46⟩ := h_; rw [hL_, hM_]; clear hL_ hM_ L Ms
      rcases k153 with _ | k153
      · exact (no_none H).elim
      rw [spec_RingJoin_j0] at H
      refine at_join (fun L I Ms => ∃ (k256 : Nat), L = [(1, .slice A44 p43.length c45), (2, .bool p47), (3, .pointer (some ⟨g48, 0, none⟩)), (6, .pointer (some ⟨g49, 0, none⟩))] ∧ Ms = ([(g48, .cells #[.slice A40 p39.Items.length c41, .int .i64 p39.At] 27 (0, 0))] :: [(g49, .cells #[.slice none ([] : List (List Int)).length 0, .int .i64 0] 27 (0, 0))] :: Fs) ∧ spec_RingJoin_j1 k256 p39 p43 p47 = some r ∧ ImmLe I0 I ∧ k256 ≤ k153 ∧ Rd (Kd.slice (Kd.int .i64)) I A40 c41 p39.Items ∧ Rd (Kd.int .i64) I A44 c45 p43) ?_ ?_
      · clear H hle hr42 hr46
        intro L I Ms h_; obtain ⟨k256, hL_, hM_, H, hle, hk257, hr42, hr46⟩ := h_; rw [hL_, hM_]; clear hL_ hM_ L Ms
        rcases k256 with _ | k256
        · exact (no_none H).elim
        rw [spec_RingJoin_j1] at H
        refine at_seq ?_
        refine at_ops [0, 1, 2, 3] rfl ?_
        refine at_seg [0] [1, 2, 3] rfl [(0, .agg #[.slice A40 p39.Items.length c41, .int .i64 p39.At])] [1, 2, 3, 6, 45] (L2 := [(1, .slice A44 p43.length c45), (2, .bool p47), (3, .pointer (some ⟨g48, 0, none⟩)), (6, .pointer (some ⟨g49, 0, none⟩)), (45, .agg #[.slice A40 p39.Items.length c41, .int .i64 p39.At])]) (obs := [fun w => CellsAt w ⟨g48, 0, none⟩ [.slice A40 p39.Items.length c41, .int .i64 p39.At] 0]) (by kernel_rfl) ?_ ?_
        · intro w hs; exact cellsV (k := 0) hs rfl _ 0 (Nat.le_of_ble_eq_true (by kernel_rfl)) rfl
        refine at_eff rfl rfl ?_
        obtain ⟨b4, H258, H⟩ := bind_some H
        have hm_ := spec_l04Copy.calls (I0 := I) H258 hr42
        refine eff_call rfl rfl ok28 rfl rfl (show Meets Try.prog 28 ([.agg #[.slice A40 p39.Items.length c41, .int .i64 p39.At]] : List Value).toArray _ [] _ from hm_) (Mr := ([(g48, .cells #[.slice A40 p39.Items.length c41, .int .i64 p39.At] 27 (0, 0))] :: [(g49, .cells #[.slice none ([] : List (List Int)).length 0, .int .i64 0] 27 (0, 0))] :: Fs)) (List.Perm.refl _) (fun v259 J260 M261 hq262 hJ263 => ?_)
        replace hle := hle.trans hJ263
        replace hr42 := hr42.mono hJ263
        replace hr46 := hr46.mono hJ263
        obtain ⟨A264, c265, s266, rfl, rfl, ho267⟩ := hq262
        refine at_eff rfl rfl ?_
        obtain ⟨i_, hi_, hz_, _, _⟩ := info27
        refine eff_alloc rfl rfl hi_ hz_ #[.slice none ([] : List (List Int)).length 0, .int .i64 0] rfl (fun g268 => ?_)
        refine at_eff rfl rfl ?_
        refine eff_store 0 rfl rfl rfl rfl rfl rfl (.inl (Nat.le_refl _)) rfl (Nat.le_of_ble_eq_true (by kernel_rfl)) rfl ?_
        refine at_end ?_
        refine at_thn ?_
        refine at_seq ?_
        refine at_ops [0, 1] rfl ?_
        refine at_seg [0] [1] rfl [] [1, 2, 3, 6, 7, 47] (L2 := [(1, .slice A44 p43.length c45), (2, .bool p47), (3, .pointer (some ⟨g48, 0, none⟩)), (6, .pointer (some ⟨g49, 0, none⟩)), (7, .pointer (some ⟨g268, 0, none⟩)), (47, .pointer (some ⟨g268, 1, none⟩))]) (obs := []) (by kernel_rfl) ?_ ?_
        · intro w hs; exact trivial
        refine at_eff rfl rfl ?_
        refine eff_store 0 rfl rfl rfl rfl rfl rfl (.inl (Nat.le_refl _)) rfl (Nat.le_of_ble_eq_true (by kernel_rfl)) rfl ?_
        refine at_end ?_
        refine at_thn ?_
        refine at_seq ?_
        refine at_seq ?_
        refine at_reg [] [1, 3, 6, 7, 48] (L2 := [(1, .slice A44 p43.length c45), (3, .pointer (some ⟨g48, 0, none⟩)), (6, .pointer (some ⟨g49, 0, none⟩)), (7, .pointer (some ⟨g268, 0, none⟩)), (48, .bool p47)]) (obs := []) (by kernel_rfl) ?_ ?_
        · intro w hs; exact trivial
        refine at_thn ?_
        by_cases h269 : p47 = true
        · rw [if_pos h269] at H
          refine at_cond_t rfl (h269) ?_
          obtain ⟨h270, H⟩ := ite_some H
          obtain ⟨cs275, hz276, hc271⟩ := hr42.elem [] 0 (by decide : (0 : Int) ≤ 0) h270
          obtain ⟨A272, c273, rfl, hr274⟩ := hz276
          refine at_x hmo (fun w => w.cell? ⟨g268, 0, none⟩ = some (.slice A264 b4.Items.length c265) ∧ w.cell? ⟨g48, 0, none⟩ = some (.slice A40 p39.Items.length c41) ∧ w.cell? ((A40.getD ad0).add ((0 : Int).toNat * 1)) = some (.slice A272 (rdA [] p39.Items 0).length c273)) [10] ?_
          refine at_xseg [0, 1, 2, 4, 5, 6, 7] 4 (#[true, true, true, false, true, true, true, true, false, false, false]) rfl (by kernel_rfl) [(1, .slice A264 b4.Items.length c265), (5, .slice A40 p39.Items.length c41), (7, .slice A272 (rdA [] p39.Items 0).length c273)] [6, 7, 50, 51, 56] (L2 := [(6, .pointer (some ⟨g49, 0, none⟩)), (7, .pointer (some ⟨g268, 0, none⟩)), (50, .slice A264 b4.Items.length c265), (51, .slice A44 p43.length c45), (56, .slice A272 (rdA [] p39.Items 0).length c273)]) (obs := [fun w => w.cell? ⟨g268, 0, none⟩ = some (.slice A264 b4.Items.length c265), fun w => w.cell? ⟨g48, 0, none⟩ = some (.slice A40 p39.Items.length c41), fun _ => A40.isSome = true ∧ 0 ≤ (0 : Int) ∧ (0 : Int) < ((p39.Items.length : Nat) : Int), fun w => w.cell? ((A40.getD ad0).add ((0 : Int).toNat * 1)) = some (.slice A272 (rdA [] p39.Items 0).length c273)]) (by kernel_rfl) (by kernel_rfl) (by kernel_rfl) (.inr fun w hs => ⟨hs.var (k := 0) rfl 0 rfl, hs.var (k := 2) rfl 0 rfl, cell0 (hc271 0 _ rfl hs)⟩) (fun w hS => ⟨hS.1, hS.2.1, ⟨hr42.ne 0 (by decide : (0 : Int) ≤ 0) h270, (by decide : (0 : Int) ≤ 0), h270⟩, hS.2.2⟩) (fun w hs => ⟨hs.var (k := 0) rfl 0 rfl, hs.var (k := 2) rfl 0 rfl, ⟨hr42.ne 0 (by decide : (0 : Int) ≤ 0) h270, (by decide : (0 : Int) ≤ 0), h270⟩, cell0 (hc271 0 _ rfl hs)⟩) ?_
          refine at_x1 3 3 (#[true, true, true, true, true, true, true, true, false, false, false]) rfl (by kernel_rfl) (by kernel_rfl) rfl rfl ?_
          obtain ⟨b5, H277, H⟩ := bind_some H
          have hm_ := spec_l01Copy.calls (I0 := J260) H277 hr46
          refine eff_call rfl rfl ok29 rfl rfl (show Meets Try.prog 29 ([.slice A44 p43.length c45] : List Value).toArray _ [] _ from hm_) (Mr := ([(g268, .cells #[.slice A264 b4.Items.length c265, .int .i64 0] 27 (0, 0))] :: s266 :: [(g48, .cells #[.slice A40 p39.Items.length c41, .int .i64 p39.At] 27 (0, 0))] :: [(g49, .cells #[.slice none ([] : List (List Int)).length 0, .int .i64 0] 27 (0, 0))] :: Fs)) (List.Perm.refl _) (fun v278 J279 M280 hq281 hJ282 => ?_)
          replace hle := hle.trans hJ282
          replace ho267 := ho267.mono hJ282
          replace hr274 := hr274.mono hJ282
          replace hr42 := hr42.mono hJ282
          replace hr46 := hr46.mono hJ282
          replace hc271 := hc_mono hc271 hJ282
          obtain ⟨A283, c284, s285, rfl, rfl, ho286⟩ := hq281
          refine at_xS (fun w hs => ⟨hs.var (k := 1) rfl 0 rfl, hs.var (k := 3) rfl 0 rfl, cell0 (hc271 0 _ rfl hs)⟩) ?_
          refine at_x1 2 8 (#[true, true, true, true, true, true, true, true, true, false, false]) rfl (by kernel_rfl) (by kernel_rfl) rfl rfl ?_
          obtain ⟨h287, H⟩ := ite_some H
          obtain ⟨i_, hi_, hz_, hs_, hb_⟩ := info2
          refine eff_append (K := (Kd.int .i64)) (xs := b5) (ys := rdA [] p39.Items 0) 0 rfl rfl rfl rfl rfl und25 und25 hi_ hz_ hs_ rfl rfl rfl ho286 rfl (fun w hs => hr274.rowAt hs) (by rw [hb_]; omega) (by omega) (fun A288 c289 s290 ho291 => ?_)
          refine at_xS (fun w hs => ⟨hs.var (k := 1) rfl 0 rfl, hs.var (k := 3) rfl 0 rfl, cell0 (hc271 0 _ rfl hs)⟩) ?_
          obtain ⟨h292, H⟩ := ite_some H
          refine at_xseg [9] 1 (#[true, true, true, true, true, true, true, true, true, true, false]) rfl (by kernel_rfl) [] [6, 7, 57, 58] (L2 := [(6, .pointer (some ⟨g49, 0, none⟩)), (7, .pointer (some ⟨g268, 0, none⟩)), (57, .slice A288 (b5 ++ rdA [] p39.Items 0).length c289), (58, .pointer (some ((A264.getD ad0).add ((0 : Int).toNat * 1))))]) (obs := [fun _ => A264.isSome = true ∧ 0 ≤ (0 : Int) ∧ (0 : Int) < ((b4.Items.length : Nat) : Int)]) (by kernel_rfl) (by kernel_rfl) (by kernel_rfl) (.inr fun w hs => ⟨hs.var (k := 1) rfl 0 rfl, hs.var (k := 3) rfl 0 rfl, cell0 (hc271 0 _ rfl hs)⟩) (fun w hS => ⟨ho267.ne 0 (by decide : (0 : Int) ≤ 0) h292, (by decide : (0 : Int) ≤ 0), h292⟩) (fun w hs => ⟨ho267.ne 0 (by decide : (0 : Int) ≤ 0) h292, (by decide : (0 : Int) ≤ 0), h292⟩) ?_
          refine at_x1 0 10 (#[true, true, true, true, true, true, true, true, true, true, true]) rfl (by kernel_rfl) (by kernel_rfl) rfl rfl ?_
          refine eff_storeDrow (D := (DK.sl (Kd.int .i64) 2)) (u := (b5 ++ rdA [] p39.Items 0)) (d := []) (i := 0) 1 0 0 rfl rfl rfl rfl ho267 (by decide) h292 rfl rfl (add0 _).symm rfl (Nat.le_of_ble_eq_true (by kernel_rfl)) rfl (fun _ _ => rfl) ho291 (fun s293 hd294 => ?_)
          have he295 : rdA [] (b4.Items.set (0 : Int).toNat (b5 ++ rdA [] p39.Items 0)) 0 = (b5 ++ rdA [] p39.Items 0) := rdA_set _ _ (by decide) h292
          have hd296 : DOwn (DK.sl (Kd.int .i64) 2) 25 J279 A264 c265 (b4.Items.set (0 : Int).toNat (b5 ++ rdA [] p39.Items 0)) s293 := hd294.own
          have hi297 : OwnIn (Kd.int .i64) 2 J279 A288 c289 (b5 ++ rdA [] p39.Items 0) s293 := by have h_ := hd294.inn; rw [he295] at h_; exact h_
          refine at_keep [6, 7, 58] (L2 := [(6, .pointer (some ⟨g49, 0, none⟩)), (7, .pointer (some ⟨g268, 0, none⟩)), (58, .pointer (some ((A264.getD ad0).add ((0 : Int).toNat * 1))))]) rfl ?_
          refine at_eqM (M1 := ([(g268, .cells #[.slice A264 b4.Items.length c265, .int .i64 0] 27 (0, 0))] :: s293 :: [(g48, .cells #[.slice A40 p39.Items.length c41, .int .i64 p39.At] 27 (0, 0))] :: [(g49, .cells #[.slice none ([] : List (List Int)).length 0, .int .i64 0] 27 (0, 0))] :: Fs)) (M2 := ([(g268, .cells #[.slice A264 (b4.Items.set (0 : Int).toNat (b5 ++ rdA [] p39.Items 0)).length c265, .int .i64 0] 27 (0, 0))] :: s293 :: [(g48, .cells #[.slice A40 p39.Items.length c41, .int .i64 p39.At] 27 (0, 0))] :: [(g49, .cells #[.slice none ([] : List (List Int)).length 0, .int .i64 0] 27 (0, 0))] :: Fs)) rfl (by simp only [List.length_set]) ?_
          have h298 : (0 : Int) < ((b4.Items.set (0 : Int).toNat (b5 ++ rdA [] p39.Items 0)).length : Int) := by simp only [List.length_set]; exact h292
          refine at_xX (by kernel_rfl) ?_
          refine at_xend (by kernel_rfl) ?_
          refine at_thn ?_
          refine at_seq ?_
          refine at_ops [0, 1] rfl ?_
          refine at_seg [0] [1] rfl [(0, .agg #[.slice A264 (b4.Items.set (0 : Int).toNat (b5 ++ rdA [] p39.Items 0)).length c265, .int .i64 0])] [6, 69] (L2 := [(6, .pointer (some ⟨g49, 0, none⟩)), (69, .agg #[.slice A264 (b4.Items.set (0 : Int).toNat (b5 ++ rdA [] p39.Items 0)).length c265, .int .i64 0])]) (obs := [fun w => CellsAt w ⟨g268, 0, none⟩ [.slice A264 (b4.Items.set (0 : Int).toNat (b5 ++ rdA [] p39.Items 0)).length c265, .int .i64 0] 0]) (by kernel_rfl) ?_ ?_
          · intro w hs; exact cellsV (k := 0) hs rfl _ 0 (Nat.le_of_ble_eq_true (by kernel_rfl)) rfl
          refine at_eff rfl rfl ?_
          refine eff_store 3 rfl rfl rfl rfl rfl rfl (.inl (Nat.le_refl _)) rfl (Nat.le_of_ble_eq_true (by kernel_rfl)) rfl ?_
          refine at_end ?_
          refine at_thn ?_
          refine at_ret ?_
          obtain rfl := Option.some.inj H
          refine at_drop (k := 0) rfl rfl ?_
          refine at_drop (k := 1) rfl rfl ?_
          refine at_done (vs := [.agg #[.slice A264 (b4.Items.set (0 : Int).toNat (b5 ++ rdA [] p39.Items 0)).length c265, .int .i64 0]]) (obs := [fun w => CellsAt w ⟨g49, 0, none⟩ [.slice A264 (b4.Items.set (0 : Int).toNat (b5 ++ rdA [] p39.Items 0)).length c265, .int .i64 0] 0]) (.inl rfl) [.cell 6 27] [(6, .agg #[.slice A264 (b4.Items.set (0 : Int).toNat (b5 ++ rdA [] p39.Items 0)).length c265, .int .i64 0])] rfl (by kernel_rfl) (fun w hs => cellsV (k := 1) hs rfl _ 0 (Nat.le_of_ble_eq_true (by kernel_rfl)) rfl) (fun w hs => ⟨_, _, [s293], rfl, ⟨A264, c265, s293, rfl, rfl, hd296⟩, hle, (hs.tail (perm_at (k := 1) rfl))⟩)
        · rw [if_neg h269] at H
          refine at_cond_f rfl (ff_of h269) ?_
          obtain ⟨h299, H⟩ := ite_some H
          obtain ⟨cs304, hz305, hc300⟩ := hr42.elem [] 0 (by decide : (0 : Int) ≤ 0) h299
          obtain ⟨A301, c302, rfl, hr303⟩ := hz305
          refine at_x hmo (fun w => w.cell? ⟨g268, 0, none⟩ = some (.slice A264 b4.Items.length c265) ∧ w.cell? ⟨g48, 0, none⟩ = some (.slice A40 p39.Items.length c41) ∧ w.cell? ((A40.getD ad0).add ((0 : Int).toNat * 1)) = some (.slice A301 (rdA [] p39.Items 0).length c302)) [10] ?_
          refine at_xseg [0, 1, 2, 3, 4, 5, 7] 4 (#[true, true, true, true, true, true, false, true, false, false, false]) rfl (by kernel_rfl) [(1, .slice A264 b4.Items.length c265), (3, .slice A40 p39.Items.length c41), (5, .slice A301 (rdA [] p39.Items 0).length c302)] [6, 7, 60, 64, 66] (L2 := [(6, .pointer (some ⟨g49, 0, none⟩)), (7, .pointer (some ⟨g268, 0, none⟩)), (60, .slice A264 b4.Items.length c265), (64, .slice A301 (rdA [] p39.Items 0).length c302), (66, .slice A44 p43.length c45)]) (obs := [fun w => w.cell? ⟨g268, 0, none⟩ = some (.slice A264 b4.Items.length c265), fun w => w.cell? ⟨g48, 0, none⟩ = some (.slice A40 p39.Items.length c41), fun _ => A40.isSome = true ∧ 0 ≤ (0 : Int) ∧ (0 : Int) < ((p39.Items.length : Nat) : Int), fun w => w.cell? ((A40.getD ad0).add ((0 : Int).toNat * 1)) = some (.slice A301 (rdA [] p39.Items 0).length c302)]) (by kernel_rfl) (by kernel_rfl) (by kernel_rfl) (.inr fun w hs => ⟨hs.var (k := 0) rfl 0 rfl, hs.var (k := 2) rfl 0 rfl, cell0 (hc300 0 _ rfl hs)⟩) (fun w hS => ⟨hS.1, hS.2.1, ⟨hr42.ne 0 (by decide : (0 : Int) ≤ 0) h299, (by decide : (0 : Int) ≤ 0), h299⟩, hS.2.2⟩) (fun w hs => ⟨hs.var (k := 0) rfl 0 rfl, hs.var (k := 2) rfl 0 rfl, ⟨hr42.ne 0 (by decide : (0 : Int) ≤ 0) h299, (by decide : (0 : Int) ≤ 0), h299⟩, cell0 (hc300 0 _ rfl hs)⟩) ?_
          refine at_x1 3 6 (#[true, true, true, true, true, true, true, true, false, false, false]) rfl (by kernel_rfl) (by kernel_rfl) rfl rfl ?_
          obtain ⟨b6, H306, H⟩ := bind_some H
          have hm_ := spec_l01Copy.calls (I0 := J260) H306 hr303
          refine eff_call rfl rfl ok29 rfl rfl (show Meets Try.prog 29 ([.slice A301 (rdA [] p39.Items 0).length c302] : List Value).toArray _ [] _ from hm_) (Mr := ([(g268, .cells #[.slice A264 b4.Items.length c265, .int .i64 0] 27 (0, 0))] :: s266 :: [(g48, .cells #[.slice A40 p39.Items.length c41, .int .i64 p39.At] 27 (0, 0))] :: [(g49, .cells #[.slice none ([] : List (List Int)).length 0, .int .i64 0] 27 (0, 0))] :: Fs)) (List.Perm.refl _) (fun v307 J308 M309 hq310 hJ311 => ?_)
          replace hle := hle.trans hJ311
          replace ho267 := ho267.mono hJ311
          replace hr303 := hr303.mono hJ311
          replace hr42 := hr42.mono hJ311
          replace hr46 := hr46.mono hJ311
          replace hc300 := hc_mono hc300 hJ311
          obtain ⟨A312, c313, s314, rfl, rfl, ho315⟩ := hq310
          refine at_xS (fun w hs => ⟨hs.var (k := 1) rfl 0 rfl, hs.var (k := 3) rfl 0 rfl, cell0 (hc300 0 _ rfl hs)⟩) ?_
          refine at_x1 2 8 (#[true, true, true, true, true, true, true, true, true, false, false]) rfl (by kernel_rfl) (by kernel_rfl) rfl rfl ?_
          obtain ⟨h316, H⟩ := ite_some H
          obtain ⟨i_, hi_, hz_, hs_, hb_⟩ := info2
          refine eff_append (K := (Kd.int .i64)) (xs := b6) (ys := p43) 0 rfl rfl rfl rfl rfl und25 und25 hi_ hz_ hs_ rfl rfl rfl ho315 rfl (fun w hs => hr46.rowAt hs) (by rw [hb_]; omega) (by omega) (fun A317 c318 s319 ho320 => ?_)
          refine at_xS (fun w hs => ⟨hs.var (k := 1) rfl 0 rfl, hs.var (k := 3) rfl 0 rfl, cell0 (hc300 0 _ rfl hs)⟩) ?_
          obtain ⟨h321, H⟩ := ite_some H
          refine at_xseg [9] 1 (#[true, true, true, true, true, true, true, true, true, true, false]) rfl (by kernel_rfl) [] [6, 7, 67, 68] (L2 := [(6, .pointer (some ⟨g49, 0, none⟩)), (7, .pointer (some ⟨g268, 0, none⟩)), (67, .slice A317 (b6 ++ p43).length c318), (68, .pointer (some ((A264.getD ad0).add ((0 : Int).toNat * 1))))]) (obs := [fun _ => A264.isSome = true ∧ 0 ≤ (0 : Int) ∧ (0 : Int) < ((b4.Items.length : Nat) : Int)]) (by kernel_rfl) (by kernel_rfl) (by kernel_rfl) (.inr fun w hs => ⟨hs.var (k := 1) rfl 0 rfl, hs.var (k := 3) rfl 0 rfl, cell0 (hc300 0 _ rfl hs)⟩) (fun w hS => ⟨ho267.ne 0 (by decide : (0 : Int) ≤ 0) h321, (by decide : (0 : Int) ≤ 0), h321⟩) (fun w hs => ⟨ho267.ne 0 (by decide : (0 : Int) ≤ 0) h321, (by decide : (0 : Int) ≤ 0), h321⟩) ?_
          refine at_x1 0 10 (#[true, true, true, true, true, true, true, true, true, true, true]) rfl (by kernel_rfl) (by kernel_rfl) rfl rfl ?_
          refine eff_storeDrow (D := (DK.sl (Kd.int .i64) 2)) (u := (b6 ++ p43)) (d := []) (i := 0) 1 0 0 rfl rfl rfl rfl ho267 (by decide) h321 rfl rfl (add0 _).symm rfl (Nat.le_of_ble_eq_true (by kernel_rfl)) rfl (fun _ _ => rfl) ho320 (fun s322 hd323 => ?_)
          have he324 : rdA [] (b4.Items.set (0 : Int).toNat (b6 ++ p43)) 0 = (b6 ++ p43) := rdA_set _ _ (by decide) h321
          have hd325 : DOwn (DK.sl (Kd.int .i64) 2) 25 J308 A264 c265 (b4.Items.set (0 : Int).toNat (b6 ++ p43)) s322 := hd323.own
          have hi326 : OwnIn (Kd.int .i64) 2 J308 A317 c318 (b6 ++ p43) s322 := by have h_ := hd323.inn; rw [he324] at h_; exact h_
          refine at_keep [6, 7, 68] (L2 := [(6, .pointer (some ⟨g49, 0, none⟩)), (7, .pointer (some ⟨g268, 0, none⟩)), (68, .pointer (some ((A264.getD ad0).add ((0 : Int).toNat * 1))))]) rfl ?_
          refine at_eqM (M1 := ([(g268, .cells #[.slice A264 b4.Items.length c265, .int .i64 0] 27 (0, 0))] :: s322 :: [(g48, .cells #[.slice A40 p39.Items.length c41, .int .i64 p39.At] 27 (0, 0))] :: [(g49, .cells #[.slice none ([] : List (List Int)).length 0, .int .i64 0] 27 (0, 0))] :: Fs)) (M2 := ([(g268, .cells #[.slice A264 (b4.Items.set (0 : Int).toNat (b6 ++ p43)).length c265, .int .i64 0] 27 (0, 0))] :: s322 :: [(g48, .cells #[.slice A40 p39.Items.length c41, .int .i64 p39.At] 27 (0, 0))] :: [(g49, .cells #[.slice none ([] : List (List Int)).length 0, .int .i64 0] 27 (0, 0))] :: Fs)) rfl (by simp only [List.length_set]) ?_
          have h327 : (0 : Int) < ((b4.Items.set (0 : Int).toNat (b6 ++ p43)).length : Int) := by simp only [List.length_set]; exact h321
          refine at_xX (by kernel_rfl) ?_
          refine at_xend (by kernel_rfl) ?_
          refine at_thn ?_
          refine at_seq ?_
          refine at_ops [0, 1] rfl ?_
          refine at_seg [0] [1] rfl [(0, .agg #[.slice A264 (b4.Items.set (0 : Int).toNat (b6 ++ p43)).length c265, .int .i64 0])] [6, 69] (L2 := [(6, .pointer (some ⟨g49, 0, none⟩)), (69, .agg #[.slice A264 (b4.Items.set (0 : Int).toNat (b6 ++ p43)).length c265, .int .i64 0])]) (obs := [fun w => CellsAt w ⟨g268, 0, none⟩ [.slice A264 (b4.Items.set (0 : Int).toNat (b6 ++ p43)).length c265, .int .i64 0] 0]) (by kernel_rfl) ?_ ?_
          · intro w hs; exact cellsV (k := 0) hs rfl _ 0 (Nat.le_of_ble_eq_true (by kernel_rfl)) rfl
          refine at_eff rfl rfl ?_
          refine eff_store 3 rfl rfl rfl rfl rfl rfl (.inl (Nat.le_refl _)) rfl (Nat.le_of_ble_eq_true (by kernel_rfl)) rfl ?_
          refine at_end ?_
          refine at_thn ?_
          refine at_ret ?_
          obtain rfl := Option.some.inj H
          refine at_drop (k := 0) rfl rfl ?_
          refine at_drop (k := 1) rfl rfl ?_
          refine at_done (vs := [.agg #[.slice A264 (b4.Items.set (0 : Int).toNat (b6 ++ p43)).length c265, .int .i64 0]]) (obs := [fun w => CellsAt w ⟨g49, 0, none⟩ [.slice A264 (b4.Items.set (0 : Int).toNat (b6 ++ p43)).length c265, .int .i64 0] 0]) (.inl rfl) [.cell 6 27] [(6, .agg #[.slice A264 (b4.Items.set (0 : Int).toNat (b6 ++ p43)).length c265, .int .i64 0])] rfl (by kernel_rfl) (fun w hs => cellsV (k := 1) hs rfl _ 0 (Nat.le_of_ble_eq_true (by kernel_rfl)) rfl) (fun w hs => ⟨_, _, [s322], rfl, ⟨A264, c265, s322, rfl, rfl, hd325⟩, hle, (hs.tail (perm_at (k := 1) rfl))⟩)
      · intro Jn155
        refine at_join (fun L I Ms => ∃ (k430 : Nat), ∃ (x429 : Bool), L = [(1, .slice A44 p43.length c45), (2, .bool p47), (3, .pointer (some ⟨g48, 0, none⟩)), (6, .pointer (some ⟨g49, 0, none⟩)), (41, .bool x429)] ∧ Ms = ([(g48, .cells #[.slice A40 p39.Items.length c41, .int .i64 p39.At] 27 (0, 0))] :: [(g49, .cells #[.slice none ([] : List (List Int)).length 0, .int .i64 0] 27 (0, 0))] :: Fs) ∧ spec_RingJoin_j2 k430 x429 p39 p43 p47 = some r ∧ ImmLe I0 I ∧ k430 ≤ k153 ∧ Rd (Kd.slice (Kd.int .i64)) I A40 c41 p39.Items ∧ Rd (Kd.int .i64) I A44 c45 p43) ?_ ?_
        · clear H hle hr42 hr46
          intro L I Ms h_; obtain ⟨k430, x429, hL_, hM_, H, hle, hk431, hr42, hr46⟩ := h_; rw [hL_, hM_]; clear hL_ hM_ L Ms
          rcases k430 with _ | k430
          · exact (no_none H).elim
          rw [spec_RingJoin_j2] at H
          by_cases h432 : x429 = true
          · rw [if_pos h432] at H
            refine at_cond_t rfl (h432) ?_
            refine at_seq ?_
            refine at_ops [0, 1, 2, 3] rfl ?_
            refine at_seg [0, 1] [2, 3] rfl [(0, .agg #[.slice A40 p39.Items.length c41, .int .i64 p39.At])] [6, 42, 43] (L2 := [(6, .pointer (some ⟨g49, 0, none⟩)), (42, .agg #[.slice A40 p39.Items.length c41, .int .i64 p39.At]), (43, .slice A44 p43.length c45)]) (obs := [fun w => CellsAt w ⟨g48, 0, none⟩ [.slice A40 p39.Items.length c41, .int .i64 p39.At] 0]) (by kernel_rfl) ?_ ?_
            · intro w hs; exact cellsV (k := 0) hs rfl _ 0 (Nat.le_of_ble_eq_true (by kernel_rfl)) rfl
            refine at_eff rfl rfl ?_
            obtain ⟨b7, H433, H⟩ := bind_some H
            have hm_ := spec_RingPush.calls (I0 := I) H433 hr42 hr46
            refine eff_call rfl rfl ok7 rfl rfl (show Meets Try.prog 7 ([.agg #[.slice A40 p39.Items.length c41, .int .i64 p39.At], .slice A44 p43.length c45] : List Value).toArray _ [] _ from hm_) (Mr := ([(g48, .cells #[.slice A40 p39.Items.length c41, .int .i64 p39.At] 27 (0, 0))] :: [(g49, .cells #[.slice none ([] : List (List Int)).length 0, .int .i64 0] 27 (0, 0))] :: Fs)) (List.Perm.refl _) (fun v434 J435 M436 hq437 hJ438 => ?_)
            replace hle := hle.trans hJ438
            replace hr42 := hr42.mono hJ438
            replace hr46 := hr46.mono hJ438
            obtain ⟨A439, c440, s441, rfl, rfl, ho442⟩ := hq437
            refine at_eff rfl rfl ?_
            refine eff_store 2 rfl rfl rfl rfl rfl rfl (.inl (Nat.le_refl _)) rfl (Nat.le_of_ble_eq_true (by kernel_rfl)) rfl ?_
            refine at_end ?_
            refine at_thn ?_
            refine at_ret ?_
            refine at_then_ret ?_
            obtain rfl := Option.some.inj H
            refine at_drop (k := 1) rfl rfl ?_
            refine at_done (vs := [.agg #[.slice A439 b7.Items.length c440, .int .i64 b7.At]]) (obs := [fun w => CellsAt w ⟨g49, 0, none⟩ [.slice A439 b7.Items.length c440, .int .i64 b7.At] 0]) (.inl rfl) [.cell 6 27] [(6, .agg #[.slice A439 b7.Items.length c440, .int .i64 b7.At])] rfl (by kernel_rfl) (fun w hs => cellsV (k := 1) hs rfl _ 0 (Nat.le_of_ble_eq_true (by kernel_rfl)) rfl) (fun w hs => ⟨_, _, [s441], rfl, ⟨A439, c440, s441, rfl, rfl, ho442⟩, hle, (hs.tail (perm_at (k := 1) rfl))⟩)
          · rw [if_neg h432] at H
            refine at_cond_f rfl (ff_of h432) ?_
            refine at_skip ?_
            refine at_thn ?_
            refine at_keep [1, 2, 3, 6] (L2 := [(1, .slice A44 p43.length c45), (2, .bool p47), (3, .pointer (some ⟨g48, 0, none⟩)), (6, .pointer (some ⟨g49, 0, none⟩))]) rfl ?_
            exact Jn155 _ _ _ ⟨_, rfl, rfl, H, hle, by omega, hr42, hr46⟩
        · intro Jn328
          by_cases h443 : (p39.Items.length : Int) = 0
          · rw [if_pos h443] at H
            refine at_reg [(1, .slice A40 p39.Items.length c41), (4, .bool true)] [1, 2, 3, 6, 41] (L2 := [(1, .slice A44 p43.length c45), (2, .bool p47), (3, .pointer (some ⟨g48, 0, none⟩)), (6, .pointer (some ⟨g49, 0, none⟩)), (41, .bool true)]) (obs := [fun w => w.cell? ⟨g48, 0, none⟩ = some (.slice A40 p39.Items.length c41), fun _ => (.bool ((p39.Items.length : Int) == 0) : Value) = .bool true]) (by kernel_rfl) ?_ ?_
            · intro w hs; exact ⟨hs.var (k := 0) rfl 0 rfl, congrArg Value.bool (beq_iff_eq.2 h443)⟩
            refine at_thn ?_
            refine at_keep [1, 2, 3, 6, 41] (L2 := [(1, .slice A44 p43.length c45), (2, .bool p47), (3, .pointer (some ⟨g48, 0, none⟩)), (6, .pointer (some ⟨g49, 0, none⟩)), (41, .bool true)]) rfl ?_
            exact Jn328 _ _ _ ⟨_, true, rfl, rfl, H, hle, by omega, hr42, hr46⟩
          · rw [if_neg h443] at H
            obtain ⟨h444, H⟩ := ite_some H
            obtain ⟨cs449, hz450, hc445⟩ := hr42.elem [] 0 (by decide : (0 : Int) ≤ 0) h444
            obtain ⟨A446, c447, rfl, hr448⟩ := hz450
            refine at_reg [(1, .slice A40 p39.Items.length c41), (4, .bool false), (6, .slice A40 p39.Items.length c41), (8, .slice A446 (rdA [] p39.Items 0).length c447)] [1, 2, 3, 6, 41] (L2 := [(1, .slice A44 p43.length c45), (2, .bool p47), (3, .pointer (some ⟨g48, 0, none⟩)), (6, .pointer (some ⟨g49, 0, none⟩)), (41, .bool (decide ((IntKind.i64.wrap (((rdA [] p39.Items 0).length : Int) + (p43.length : Int))) > 300)))]) (obs := [fun w => w.cell? ⟨g48, 0, none⟩ = some (.slice A40 p39.Items.length c41), fun _ => (.bool ((p39.Items.length : Int) == 0) : Value) = .bool false, fun w => w.cell? ⟨g48, 0, none⟩ = some (.slice A40 p39.Items.length c41), fun _ => A40.isSome = true ∧ 0 ≤ (0 : Int) ∧ (0 : Int) < ((p39.Items.length : Nat) : Int), fun w => w.cell? ((A40.getD ad0).add ((0 : Int).toNat * 1)) = some (.slice A446 (rdA [] p39.Items 0).length c447)]) (by kernel_rfl) ?_ ?_
            · intro w hs; exact ⟨hs.var (k := 0) rfl 0 rfl, congrArg Value.bool (beq_eq_false_iff_ne.2 h443), hs.var (k := 0) rfl 0 rfl, ⟨hr42.ne 0 (by decide : (0 : Int) ≤ 0) h444, (by decide : (0 : Int) ≤ 0), h444⟩, cell0 (hc445 0 _ rfl hs)⟩
            refine at_thn ?_
            refine at_keep [1, 2, 3, 6, 41] (L2 := [(1, .slice A44 p43.length c45), (2, .bool p47), (3, .pointer (some ⟨g48, 0, none⟩)), (6, .pointer (some ⟨g49, 0, none⟩)), (41, .bool (decide ((IntKind.i64.wrap (((rdA [] p39.Items 0).length : Int) + (p43.length : Int))) > 300)))]) rfl ?_
            exact Jn328 _ _ _ ⟨_, decide ((IntKind.i64.wrap (((rdA [] p39.Items 0).length : Int) + (p43.length : Int))) > 300), rfl, rfl, H, hle, by omega, hr42, hr46⟩
    · intro Jn52
      refine at_join (fun L I Ms => ∃ (k553 : Nat), ∃ (x552 : Bool), L = [(1, .slice A44 p43.length c45), (2, .bool p47), (3, .pointer (some ⟨g48, 0, none⟩)), (6, .pointer (some ⟨g49, 0, none⟩)), (24, .bool x552)] ∧ Ms = ([(g48, .cells #[.slice A40 p39.Items.length c41, .int .i64 p39.At] 27 (0, 0))] :: [(g49, .cells #[.slice none ([] : List (List Int)).length 0, .int .i64 0] 27 (0, 0))] :: Fs) ∧ spec_RingJoin_j3 k553 x552 p39 p43 p47 = some r ∧ ImmLe I0 I ∧ k553 ≤ k ∧ Rd (Kd.slice (Kd.int .i64)) I A40 c41 p39.Items ∧ Rd (Kd.int .i64) I A44 c45 p43) ?_ ?_
      · clear H hle hr42 hr46
        intro L I Ms h_; obtain ⟨k553, x552, hL_, hM_, H, hle, hk554, hr42, hr46⟩ := h_; rw [hL_, hM_]; clear hL_ hM_ L Ms
        rcases k553 with _ | k553
        · exact (no_none H).elim
        rw [spec_RingJoin_j3] at H
        by_cases h555 : x552 = true
        · rw [if_pos h555] at H
          refine at_cond_t rfl (h555) ?_
          refine at_seq ?_
          refine at_ops [0, 1, 2] rfl ?_
          refine at_seg [0] [1, 2] rfl [(0, .agg #[.slice A40 p39.Items.length c41, .int .i64 p39.At])] [6, 25] (L2 := [(6, .pointer (some ⟨g49, 0, none⟩)), (25, .agg #[.slice A40 p39.Items.length c41, .int .i64 p39.At])]) (obs := [fun w => CellsAt w ⟨g48, 0, none⟩ [.slice A40 p39.Items.length c41, .int .i64 p39.At] 0]) (by kernel_rfl) ?_ ?_
          · intro w hs; exact cellsV (k := 0) hs rfl _ 0 (Nat.le_of_ble_eq_true (by kernel_rfl)) rfl
          refine at_eff rfl rfl ?_
          obtain ⟨b8, H556, H⟩ := bind_some H
          have hm_ := spec_l04Copy.calls (I0 := I) H556 hr42
          refine eff_call rfl rfl ok28 rfl rfl (show Meets Try.prog 28 ([.agg #[.slice A40 p39.Items.length c41, .int .i64 p39.At]] : List Value).toArray _ [] _ from hm_) (Mr := ([(g48, .cells #[.slice A40 p39.Items.length c41, .int .i64 p39.At] 27 (0, 0))] :: [(g49, .cells #[.slice none ([] : List (List Int)).length 0, .int .i64 0] 27 (0, 0))] :: Fs)) (List.Perm.refl _) (fun v557 J558 M559 hq560 hJ561 => ?_)
          replace hle := hle.trans hJ561
          replace hr42 := hr42.mono hJ561
          obtain ⟨A562, c563, s564, rfl, rfl, ho565⟩ := hq560
          refine at_eff rfl rfl ?_
          refine eff_store 2 rfl rfl rfl rfl rfl rfl (.inl (Nat.le_refl _)) rfl (Nat.le_of_ble_eq_true (by kernel_rfl)) rfl ?_
          refine at_end ?_
          refine at_thn ?_
          refine at_ret ?_
          refine at_then_ret ?_
          obtain rfl := Option.some.inj H
          refine at_drop (k := 1) rfl rfl ?_
          refine at_done (vs := [.agg #[.slice A562 b8.Items.length c563, .int .i64 b8.At]]) (obs := [fun w => CellsAt w ⟨g49, 0, none⟩ [.slice A562 b8.Items.length c563, .int .i64 b8.At] 0]) (.inl rfl) [.cell 6 27] [(6, .agg #[.slice A562 b8.Items.length c563, .int .i64 b8.At])] rfl (by kernel_rfl) (fun w hs => cellsV (k := 1) hs rfl _ 0 (Nat.le_of_ble_eq_true (by kernel_rfl)) rfl) (fun w hs => ⟨_, _, [s564], rfl, ⟨A562, c563, s564, rfl, rfl, ho565⟩, hle, (hs.tail (perm_at (k := 1) rfl))⟩)
        · rw [if_neg h555] at H
          refine at_cond_f rfl (ff_of h555) ?_
          refine at_skip ?_
          refine at_thn ?_
          refine at_keep [1, 2, 3, 6] (L2 := [(1, .slice A44 p43.length c45), (2, .bool p47), (3, .pointer (some ⟨g48, 0, none⟩)), (6, .pointer (some ⟨g49, 0, none⟩))]) rfl ?_
          exact Jn52 _ _ _ ⟨_, rfl, rfl, H, hle, by omega, hr42, hr46⟩
      · intro Jn451
        refine at_ops [0, 1, 2, 3, 4, 5, 6, 7, 8, 9, 10, 11, 12] rfl ?_
        refine at_seg [0] [1, 2, 3, 4, 5, 6, 7, 8, 9, 10, 11, 12] rfl [(0, .agg #[.slice A40 p39.Items.length c41, .int .i64 p39.At])] [1, 2, 3, 6, 12] (L2 := [(1, .slice A44 p43.length c45), (2, .bool p47), (3, .pointer (some ⟨g48, 0, none⟩)), (6, .pointer (some ⟨g49, 0, none⟩)), (12, .agg #[.slice A40 p39.Items.length c41, .int .i64 p39.At])]) (obs := [fun w => CellsAt w ⟨g48, 0, none⟩ [.slice A40 p39.Items.length c41, .int .i64 p39.At] 0]) (by kernel_rfl) ?_ ?_
        · intro w hs; exact cellsV (k := 1) hs rfl _ 0 (Nat.le_of_ble_eq_true (by kernel_rfl)) rfl
        refine at_eff rfl rfl ?_
        obtain ⟨b9, H566, H⟩ := bind_some H
        have hm_ := spec_RingRight.calls (I0 := I0) H566 hr42
        refine eff_call rfl rfl ok19 rfl rfl (show Meets Try.prog 19 ([.agg #[.slice A40 p39.Items.length c41, .int .i64 p39.At]] : List Value).toArray _ [] _ from hm_) (Mr := ([(g49, .cells #[.slice none ([] : List (List Int)).length 0, .int .i64 0] 27 (0, 0))] :: [(g48, .cells #[.slice A40 p39.Items.length c41, .int .i64 p39.At] 27 (0, 0))] :: Fs)) (List.Perm.refl _) (fun v567 J568 M569 hq570 hJ571 => ?_)
        replace hle := hle.trans hJ571
        replace hr42 := hr42.mono hJ571
        replace hr46 := hr46.mono hJ571
        obtain ⟨rfl, rfl⟩ := hq570
        by_cases h572 : b9 = true
        · rw [if_pos h572] at H
          refine at_seg [2, 3, 4] [5, 6, 7, 8, 9, 10, 11, 12] rfl [(3, .bool false)] [1, 2, 3, 6, 15, 16] (L2 := [(1, .slice A44 p43.length c45), (2, .bool p47), (3, .pointer (some ⟨g48, 0, none⟩)), (6, .pointer (some ⟨g49, 0, none⟩)), (15, .bool false), (16, .slice A44 p43.length c45)]) (obs := [fun _ => (.bool (!b9) : Value) = .bool false]) (by kernel_rfl) ?_ ?_
          · intro w hs; exact congrArg Value.bool (not_ff (h572))
          refine at_eff rfl rfl ?_
          obtain ⟨b10, H573, H⟩ := bind_some H
          have hm_ := spec_PointsRight.calls (I0 := J568) H573 hr46
          refine eff_call rfl rfl ok20 rfl rfl (show Meets Try.prog 20 ([.slice A44 p43.length c45] : List Value).toArray _ [] _ from hm_) (Mr := ([(g49, .cells #[.slice none ([] : List (List Int)).length 0, .int .i64 0] 27 (0, 0))] :: [(g48, .cells #[.slice A40 p39.Items.length c41, .int .i64 p39.At] 27 (0, 0))] :: Fs)) (List.Perm.refl _) (fun v574 J575 M576 hq577 hJ578 => ?_)
          replace hle := hle.trans hJ578
          replace hr42 := hr42.mono hJ578
          replace hr46 := hr46.mono hJ578
          obtain ⟨rfl, rfl⟩ := hq577
          by_cases h579 : b10 = true
          · rw [if_pos h579] at H
            refine at_seg [6, 7, 8, 9, 10, 11, 12] [] rfl [(8, .bool false)] [1, 2, 3, 6, 24] (L2 := [(1, .slice A44 p43.length c45), (2, .bool p47), (3, .pointer (some ⟨g48, 0, none⟩)), (6, .pointer (some ⟨g49, 0, none⟩)), (24, .bool ((p43.length : Int) == 0))]) (obs := [fun _ => (.bool (!b10) : Value) = .bool false]) (by kernel_rfl) ?_ ?_
            · intro w hs; exact congrArg Value.bool (not_ff (h579))
            refine at_end ?_
            refine at_thn ?_
            refine at_perm ((perm_at (k := 1) rfl).trans ((List.Perm.refl _).cons _)) ?_
            refine at_keep [1, 2, 3, 6, 24] (L2 := [(1, .slice A44 p43.length c45), (2, .bool p47), (3, .pointer (some ⟨g48, 0, none⟩)), (6, .pointer (some ⟨g49, 0, none⟩)), (24, .bool ((p43.length : Int) == 0))]) rfl ?_
            exact Jn451 _ _ _ ⟨_, ((p43.length : Int) == 0), rfl, rfl, H, hle, by omega, hr42, hr46⟩
          · rw [if_neg h579] at H
            refine at_seg [6, 7, 8, 9, 10, 11, 12] [] rfl [(8, .bool true)] [1, 2, 3, 6, 24] (L2 := [(1, .slice A44 p43.length c45), (2, .bool p47), (3, .pointer (some ⟨g48, 0, none⟩)), (6, .pointer (some ⟨g49, 0, none⟩)), (24, .bool true)]) (obs := [fun _ => (.bool (!b10) : Value) = .bool true]) (by kernel_rfl) ?_ ?_
            · intro w hs; exact congrArg Value.bool (not_tt (ff_of h579))
            refine at_end ?_
            refine at_thn ?_
            refine at_perm ((perm_at (k := 1) rfl).trans ((List.Perm.refl _).cons _)) ?_
            refine at_keep [1, 2, 3, 6, 24] (L2 := [(1, .slice A44 p43.length c45), (2, .bool p47), (3, .pointer (some ⟨g48, 0, none⟩)), (6, .pointer (some ⟨g49, 0, none⟩)), (24, .bool true)]) rfl ?_
            exact Jn451 _ _ _ ⟨_, true, rfl, rfl, H, hle, by omega, hr42, hr46⟩
        · rw [if_neg h572] at H
          refine at_seg [2, 3, 4] [5, 6, 7, 8, 9, 10, 11, 12] rfl [(3, .bool true)] [1, 2, 3, 6, 15, 16] (L2 := [(1, .slice A44 p43.length c45), (2, .bool p47), (3, .pointer (some ⟨g48, 0, none⟩)), (6, .pointer (some ⟨g49, 0, none⟩)), (15, .bool true), (16, undef)]) (obs := [fun _ => (.bool (!b9) : Value) = .bool true]) (by kernel_rfl) ?_ ?_
          · intro w hs; exact congrArg Value.bool (not_tt (ff_of h572))
          refine at_seg [5, 6, 7, 8, 9, 10, 11, 12] [] rfl [] [1, 2, 3, 6, 24] (L2 := [(1, .slice A44 p43.length c45), (2, .bool p47), (3, .pointer (some ⟨g48, 0, none⟩)), (6, .pointer (some ⟨g49, 0, none⟩)), (24, .bool true)]) (obs := []) (by kernel_rfl) ?_ ?_
          · intro w hs; exact trivial
          refine at_end ?_
          refine at_thn ?_
          refine at_perm ((perm_at (k := 1) rfl).trans ((List.Perm.refl _).cons _)) ?_
          refine at_keep [1, 2, 3, 6, 24] (L2 := [(1, .slice A44 p43.length c45), (2, .bool p47), (3, .pointer (some ⟨g48, 0, none⟩)), (6, .pointer (some ⟨g49, 0, none⟩)), (24, .bool true)]) rfl ?_
          exact Jn451 _ _ _ ⟨_, true, rfl, rfl, H, hle, by omega, hr42, hr46⟩

/-! ### loop.example/g00146/impl.isMany: function 32 -/
def impl_isMany (p88 : Int) : Option Bool := some (decide (p88 > 400))
set_option maxHeartbeats 4000000 in
set_option maxRecDepth 100000 in
theorem impl_isMany.calls {p88 : Int} {r : Bool} {I0 : Imm} (H : impl_isMany p88 = some r) :
    Meets Try.prog 32 ([.int .i64 p88] : List Value).toArray I0 [] (fun v J M => v = .bool r ∧ M = []) := by
  have hle := ImmLe.refl I0
  unfold impl_isMany at H
  refine fn_intro (fn := Try.f32) 5 Try.func32 rfl rfl rfl (fun E Fs => ?_)
  refine at_seq ?_
  refine at_reg [] [0] (L2 := [(0, .int .i64 p88)]) (obs := []) (by kernel_rfl) ?_ ?_
  · intro w hs; exact trivial
  refine at_thn ?_
  refine at_seq ?_
  refine at_reg [] [2] (L2 := [(2, .bool (decide (p88 > 400)))]) (obs := []) (by kernel_rfl) ?_ ?_
  · intro w hs; exact trivial
  refine at_thn ?_
  refine at_ret ?_
  obtain rfl := Option.some.inj H
  refine at_done (vs := [.bool (decide (p88 > 400))]) (obs := []) (.inl rfl) [.tmp 2] [] rfl (by kernel_rfl) (fun w hs => trivial) (fun w hs => ⟨_, _, [], rfl, ⟨rfl, rfl⟩, hle, hs⟩)

/-! ### loop.example/g00146/impl.within: function 46 -/
def impl_within (p147 : Int) (p148 : Int) (p149 : Int) : Option Bool := if p148 ≤ p147 then (some (decide (p147 ≤ p149))) else (some false)
set_option maxHeartbeats 4000000 in
set_option maxRecDepth 100000 in
theorem impl_within.calls {p147 : Int} {p148 : Int} {p149 : Int} {r : Bool} {I0 : Imm} (H : impl_within p147 p148 p149 = some r) :
    Meets Try.prog 46 ([.int .i64 p147, .int .i64 p148, .int .i64 p149] : List Value).toArray I0 [] (fun v J M => v = .bool r ∧ M = []) := by
  have hle := ImmLe.refl I0
  unfold impl_within at H
  refine fn_intro (fn := Try.f46) 15 Try.func46 rfl rfl rfl (fun E Fs => ?_)
  refine at_seq ?_
  refine at_reg [] [0, 1, 2] (L2 := [(0, .int .i64 p147), (1, .int .i64 p148), (2, .int .i64 p149)]) (obs := []) (by kernel_rfl) ?_ ?_
  · intro w hs; exact trivial
  refine at_thn ?_
  refine at_seq ?_
  by_cases h150 : p148 ≤ p147
  · rw [if_pos h150] at H
    refine at_reg [(3, .bool true)] [6] (L2 := [(6, .bool (decide (p147 ≤ p149)))]) (obs := [fun _ => (.bool (decide (p148 ≤ p147)) : Value) = .bool true]) (by kernel_rfl) ?_ ?_
    · intro w hs; exact congrArg Value.bool (decide_eq_true h150)
    refine at_thn ?_
    refine at_ret ?_
    obtain rfl := Option.some.inj H
    refine at_done (vs := [.bool (decide (p147 ≤ p149))]) (obs := []) (.inl rfl) [.tmp 6] [] rfl (by kernel_rfl) (fun w hs => trivial) (fun w hs => ⟨_, _, [], rfl, ⟨rfl, rfl⟩, hle, hs⟩)
  · rw [if_neg h150] at H
    refine at_reg [(3, .bool false)] [6] (L2 := [(6, .bool false)]) (obs := [fun _ => (.bool (decide (p148 ≤ p147)) : Value) = .bool false]) (by kernel_rfl) ?_ ?_
    · intro w hs; exact congrArg Value.bool (decide_eq_false h150)
    refine at_thn ?_
    refine at_ret ?_
    obtain rfl := Option.some.inj H
    refine at_done (vs := [.bool false]) (obs := []) (.inl rfl) [.tmp 6] [] rfl (by kernel_rfl) (fun w hs => trivial) (fun w hs => ⟨_, _, [], rfl, ⟨rfl, rfl⟩, hle, hs⟩)

/-! ### loop.example/g00146/impl.isPoint: function 63 -/
def impl_isPoint (p146 : Int) : Option Bool := (impl_within p146 0 1114111).bind fun b8 => (if b8 = true then ((impl_within p146 55296 57343).bind fun b9 => (some (!b9))) else (some false))
set_option maxHeartbeats 4000000 in
set_option maxRecDepth 100000 in
theorem impl_isPoint.calls {p146 : Int} {r : Bool} {I0 : Imm} (H : impl_isPoint p146 = some r) :
    Meets Try.prog 63 ([.int .i64 p146] : List Value).toArray I0 [] (fun v J M => v = .bool r ∧ M = []) := by
  have hle := ImmLe.refl I0
  unfold impl_isPoint at H
  refine fn_intro (fn := Try.f63) 10 Try.func63 rfl rfl rfl (fun E Fs => ?_)
  refine at_seq ?_
  refine at_reg [] [0] (L2 := [(0, .int .i64 p146)]) (obs := []) (by kernel_rfl) ?_ ?_
  · intro w hs; exact trivial
  refine at_thn ?_
  refine at_seq ?_
  refine at_ops [0, 1, 2, 3, 4, 5, 6, 7] rfl ?_
  refine at_seg [0] [1, 2, 3, 4, 5, 6, 7] rfl [] [0, 3] (L2 := [(0, .int .i64 p146), (3, .int .i64 p146)]) (obs := []) (by kernel_rfl) ?_ ?_
  · intro w hs; exact trivial
  refine at_eff rfl rfl ?_
  obtain ⟨b8, H147, H⟩ := bind_some H
  have hm_ := impl_within.calls (I0 := I0) H147
  refine eff_call rfl rfl ok46 rfl rfl (show Meets Try.prog 46 ([.int .i64 p146, .int .i64 0, .int .i64 1114111] : List Value).toArray _ [] _ from hm_) (Mr := (Fs)) (List.Perm.refl _) (fun v148 J149 M150 hq151 hJ152 => ?_)
  replace hle := hle.trans hJ152
  obtain ⟨rfl, rfl⟩ := hq151
  by_cases h153 : b8 = true
  · rw [if_pos h153] at H
    refine at_seg [2, 3] [4, 5, 6, 7] rfl [(2, .bool true)] [5, 6] (L2 := [(5, .bool true), (6, .int .i64 p146)]) (obs := [fun _ => (.bool b8 : Value) = .bool true]) (by kernel_rfl) ?_ ?_
    · intro w hs; exact congrArg Value.bool (h153)
    refine at_eff rfl rfl ?_
    obtain ⟨b9, H154, H⟩ := bind_some H
    have hm_ := impl_within.calls (I0 := J149) H154
    refine eff_call rfl rfl ok46 rfl rfl (show Meets Try.prog 46 ([.int .i64 p146, .int .i64 55296, .int .i64 57343] : List Value).toArray _ [] _ from hm_) (Mr := (Fs)) (List.Perm.refl _) (fun v155 J156 M157 hq158 hJ159 => ?_)
    replace hle := hle.trans hJ159
    obtain ⟨rfl, rfl⟩ := hq158
    refine at_seg [5, 6, 7] [] rfl [] [2] (L2 := [(2, .bool (!b9))]) (obs := []) (by kernel_rfl) ?_ ?_
    · intro w hs; exact trivial
    refine at_end ?_
    refine at_thn ?_
    refine at_ret ?_
    obtain rfl := Option.some.inj H
    refine at_done (vs := [.bool (!b9)]) (obs := []) (.inl rfl) [.tmp 2] [] rfl (by kernel_rfl) (fun w hs => trivial) (fun w hs => ⟨_, _, [], rfl, ⟨rfl, rfl⟩, hle, hs⟩)
  · rw [if_neg h153] at H
    refine at_seg [2, 3] [4, 5, 6, 7] rfl [(2, .bool false)] [5, 6] (L2 := [(5, .bool false), (6, undef)]) (obs := [fun _ => (.bool b8 : Value) = .bool false]) (by kernel_rfl) ?_ ?_
    · intro w hs; exact congrArg Value.bool (ff_of h153)
    refine at_seg [4, 5, 6, 7] [] rfl [] [2] (L2 := [(2, .bool false)]) (obs := []) (by kernel_rfl) ?_ ?_
    · intro w hs; exact trivial
    refine at_end ?_
    refine at_thn ?_
    refine at_ret ?_
    obtain rfl := Option.some.inj H
    refine at_done (vs := [.bool false]) (obs := []) (.inl rfl) [.tmp 2] [] rfl (by kernel_rfl) (fun w hs => trivial) (fun w hs => ⟨_, _, [], rfl, ⟨rfl, rfl⟩, hle, hs⟩)

/-! ### loop.example/g00146/impl.PointsRight$1: function 62 -/
def impl_PointsRight_1 (p145 : Int) : Option Bool := (impl_isPoint p145).bind fun b8 => (some (!b8))
set_option maxHeartbeats 4000000 in
set_option maxRecDepth 100000 in
theorem impl_PointsRight_1.calls {p145 : Int} {r : Bool} {I0 : Imm} (H : impl_PointsRight_1 p145 = some r) :
    Meets Try.prog 62 ([.int .i64 p145] : List Value).toArray I0 [] (fun v J M => v = .bool r ∧ M = []) := by
  have hle := ImmLe.refl I0
  unfold impl_PointsRight_1 at H
  refine fn_intro (fn := Try.f62) 6 Try.func62 rfl rfl rfl (fun E Fs => ?_)
  refine at_seq ?_
  refine at_reg [] [0] (L2 := [(0, .int .i64 p145)]) (obs := []) (by kernel_rfl) ?_ ?_
  · intro w hs; exact trivial
  refine at_thn ?_
  refine at_seq ?_
  refine at_ops [0, 1, 2, 3] rfl ?_
  refine at_seg [0] [1, 2, 3] rfl [] [3] (L2 := [(3, .int .i64 p145)]) (obs := []) (by kernel_rfl) ?_ ?_
  · intro w hs; exact trivial
  refine at_eff rfl rfl ?_
  obtain ⟨b8, H146, H⟩ := bind_some H
  have hm_ := impl_isPoint.calls (I0 := I0) H146
  refine eff_call rfl rfl ok63 rfl rfl (show Meets Try.prog 63 ([.int .i64 p145] : List Value).toArray _ [] _ from hm_) (Mr := (Fs)) (List.Perm.refl _) (fun v147 J148 M149 hq150 hJ151 => ?_)
  replace hle := hle.trans hJ151
  obtain ⟨rfl, rfl⟩ := hq150
  refine at_seg [2, 3] [] rfl [] [2] (L2 := [(2, .bool (!b8))]) (obs := []) (by kernel_rfl) ?_ ?_
  · intro w hs; exact trivial
  refine at_end ?_
  refine at_thn ?_
  refine at_ret ?_
  obtain rfl := Option.some.inj H
  refine at_done (vs := [.bool (!b8)]) (obs := []) (.inl rfl) [.tmp 2] [] rfl (by kernel_rfl) (fun w hs => trivial) (fun w hs => ⟨_, _, [], rfl, ⟨rfl, rfl⟩, hle, hs⟩)

/-! ### slices.IndexFunc[[]int64,int64]: function 68 -/
def slices_IndexFunc_int64_int64_at_62_l0 : Nat → Int → (List Int) → Option Int
  | 0, _, _ => none
  | k + 1, x143, p139 => if x143 < (p139.length : Int) then (if 0 ≤ x143 then ((impl_PointsRight_1 (rdA 0 p139 x143)).bind fun b8 => (if b8 = true then (some x143) else (slices_IndexFunc_int64_int64_at_62_l0 k (IntKind.i64.wrap (x143 + 1)) p139))) else none) else (some (-1))
def slices_IndexFunc_int64_int64_at_62 (k : Nat) (p139 : List Int) : Option Int := slices_IndexFunc_int64_int64_at_62_l0 k 0 p139
set_option maxHeartbeats 4000000 in
set_option maxRecDepth 100000 in
theorem slices_IndexFunc_int64_int64_at_62.calls {k : Nat} {p139 : List Int} {r : Int} {I0 : Imm} {A140 : Option Addr} {c141 : Nat} (H : slices_IndexFunc_int64_int64_at_62 k p139 = some r) (hr142 : Rd (Kd.int .i64) I0 A140 c141 p139) :
    Meets Try.prog 68 ([.slice A140 p139.length c141, .func (.func 62) #[] #[]] : List Value).toArray I0 [] (fun v J M => v = .int .i64 r ∧ M = []) := by
  have hle := ImmLe.refl I0
  unfold slices_IndexFunc_int64_int64_at_62 at H
  refine fn_intro (fn := Try.f68) 19 Try.func68 rfl rfl rfl (fun E Fs => ?_)
  refine at_seq ?_
  refine at_reg [] [0, 1] (L2 := [(0, .slice A140 p139.length c141), (1, .func (.func 62) #[] #[])]) (obs := []) (by kernel_rfl) ?_ ?_
  · intro w hs; exact trivial
  refine at_thn ?_
  refine at_seq ?_
  refine at_seq ?_
  refine at_reg [] [0, 1, 7, 8] (L2 := [(0, .slice A140 p139.length c141), (1, .func (.func 62) #[] #[]), (7, .int .i64 (p139.length : Int)), (8, .int .i64 0)]) (obs := []) (by kernel_rfl) ?_ ?_
  · intro w hs; exact trivial
  refine at_thn ?_
  refine at_block ?_
  refine at_keep [0, 1, 7, 8] (L2 := [(0, .slice A140 p139.length c141), (1, .func (.func 62) #[] #[]), (7, .int .i64 (p139.length : Int)), (8, .int .i64 0)]) rfl ?_
  refine at_loop (fun k144 L I Ms => ∃ (x143 : Int), L = [(0, .slice A140 p139.length c141), (1, .func (.func 62) #[] #[]), (7, .int .i64 (p139.length : Int)), (8, .int .i64 x143)] ∧ Ms = ([] ++ Fs) ∧ slices_IndexFunc_int64_int64_at_62_l0 k144 x143 p139 = some r ∧ ImmLe I0 I ∧ k144 ≤ k ∧ Rd (Kd.int .i64) I A140 c141 p139) ?_ ?_ k ⟨0, rfl, rfl, H, hle, Nat.le_refl _, hr142⟩
  · rintro L I Ms ⟨_, rfl, rfl, H, _⟩; exact no_none H
  · clear H hle hr142
    intro k144 ih145 L I Ms h_; obtain ⟨x143, hL_, hM_, H, hle, hk146, hr142⟩ := h_; rw [hL_, hM_]; clear hL_ hM_ L Ms
    rw [slices_IndexFunc_int64_int64_at_62_l0] at H
    refine at_seq ?_
    refine at_reg [] [0, 1, 7, 8, 9] (L2 := [(0, .slice A140 p139.length c141), (1, .func (.func 62) #[] #[]), (7, .int .i64 (p139.length : Int)), (8, .int .i64 x143), (9, .bool (decide (x143 < (p139.length : Int))))]) (obs := []) (by kernel_rfl) ?_ ?_
    · intro w hs; exact trivial
    refine at_thn ?_
    refine at_seq ?_
    by_cases h147 : x143 < (p139.length : Int)
    · rw [if_pos h147] at H
      refine at_cond_t rfl (decide_eq_true h147) ?_
      refine at_skip ?_
      refine at_thn ?_
      refine at_seq ?_
      refine at_block ?_
      refine at_seq ?_
      refine at_reg [] [0, 1, 5, 7, 8] (L2 := [(0, .slice A140 p139.length c141), (1, .func (.func 62) #[] #[]), (5, .int .i64 x143), (7, .int .i64 (p139.length : Int)), (8, .int .i64 x143)]) (obs := []) (by kernel_rfl) ?_ ?_
      · intro w hs; exact trivial
      refine at_thn ?_
      refine at_seq ?_
      refine at_ops [0, 1, 2, 3, 4, 5] rfl ?_
      obtain ⟨h148, H⟩ := ite_some H
      refine at_seg [0, 1, 2, 3, 4] [5] rfl [(4, .int .i64 (rdA 0 p139 x143))] [0, 1, 5, 7, 8, 11, 15] (L2 := [(0, .slice A140 p139.length c141), (1, .func (.func 62) #[] #[]), (5, .int .i64 x143), (7, .int .i64 (p139.length : Int)), (8, .int .i64 x143), (11, .func (.func 62) #[] #[]), (15, .int .i64 (rdA 0 p139 x143))]) (obs := [fun _ => A140.isSome = true ∧ 0 ≤ x143 ∧ x143 < ((p139.length : Nat) : Int), fun w => w.cell? ((A140.getD ad0).add (x143.toNat * 1)) = some (.int .i64 (rdA 0 p139 x143))]) (by kernel_rfl) ?_ ?_
      · intro w hs; exact ⟨⟨hr142.ne x143 h148 h147, h148, h147⟩, hr142.one 0 x143 h148 h147 hs⟩
      refine at_eff rfl rfl ?_
      obtain ⟨b8, H149, H⟩ := bind_some H
      have hm_ := impl_PointsRight_1.calls (I0 := I) H149
      refine eff_callv (first := []) (captured := []) rfl rfl rfl ok62 rfl rfl (hm_) (Mr := (Fs)) (List.Perm.refl _) (fun v150 J151 M152 hq153 hJ154 => ?_)
      replace hle := hle.trans hJ154
      replace hr142 := hr142.mono hJ154
      obtain ⟨rfl, rfl⟩ := hq153
      refine at_end ?_
      refine at_thn ?_
      by_cases h155 : b8 = true
      · rw [if_pos h155] at H
        refine at_cond_t rfl (h155) ?_
        refine at_seq ?_
        refine at_reg [] [4] (L2 := [(4, .int .i64 x143)]) (obs := []) (by kernel_rfl) ?_ ?_
        · intro w hs; exact trivial
        refine at_thn ?_
        refine at_ret ?_
        refine at_in_ret ?_
        refine at_then_ret ?_
        refine at_then_ret ?_
        refine at_in_ret ?_
        refine at_then_ret ?_
        obtain rfl := Option.some.inj H
        refine at_done (vs := [.int .i64 x143]) (obs := []) (.inl rfl) [.tmp 4] [] rfl (by kernel_rfl) (fun w hs => trivial) (fun w hs => ⟨_, _, [], rfl, ⟨rfl, rfl⟩, hle, hs⟩)
      · rw [if_neg h155] at H
        refine at_cond_f rfl (ff_of h155) ?_
        refine at_skip ?_
        refine at_in_norm ?_
        refine at_thn ?_
        refine at_reg [] [0, 1, 7, 8] (L2 := [(0, .slice A140 p139.length c141), (1, .func (.func 62) #[] #[]), (7, .int .i64 (p139.length : Int)), (8, .int .i64 (IntKind.i64.wrap (x143 + 1)))]) (obs := []) (by kernel_rfl) ?_ ?_
        · intro w hs; exact trivial
        refine at_thn ?_
        refine at_keep [0, 1, 7, 8] (L2 := [(0, .slice A140 p139.length c141), (1, .func (.func 62) #[] #[]), (7, .int .i64 (p139.length : Int)), (8, .int .i64 (IntKind.i64.wrap (x143 + 1)))]) rfl ?_
        exact ih145 _ (by omega) _ _ _ ⟨IntKind.i64.wrap (x143 + 1), rfl, rfl, H, hle, by omega, hr142⟩
    · rw [if_neg h147] at H
      refine at_cond_f rfl (decide_eq_false h147) ?_
      refine at_exit ?_
      refine at_then_exit ?_
      refine at_then_exit ?_
      refine at_in_hit ?_
      refine at_thn ?_
      refine at_seq ?_
      refine at_reg [] [4] (L2 := [(4, .int .i64 (-1))]) (obs := []) (by kernel_rfl) ?_ ?_
      · intro w hs; exact trivial
      refine at_thn ?_
      refine at_ret ?_
      obtain rfl := Option.some.inj H
      refine at_done (vs := [.int .i64 (-1)]) (obs := []) (.inl rfl) [.tmp 4] [] rfl (by kernel_rfl) (fun w hs => trivial) (fun w hs => ⟨_, _, [], rfl, ⟨rfl, rfl⟩, hle, hs⟩)

/-! ### slices.ContainsFunc[[]int64,int64]: function 61 -/
def slices_ContainsFunc_int64_int64_at_62 (k : Nat) (p135 : List Int) : Option Bool := (slices_IndexFunc_int64_int64_at_62 k p135).bind fun b8 => (some (decide (b8 ≥ 0)))
set_option maxHeartbeats 4000000 in
set_option maxRecDepth 100000 in
theorem slices_ContainsFunc_int64_int64_at_62.calls {k : Nat} {p135 : List Int} {r : Bool} {I0 : Imm} {A136 : Option Addr} {c137 : Nat} (H : slices_ContainsFunc_int64_int64_at_62 k p135 = some r) (hr138 : Rd (Kd.int .i64) I0 A136 c137 p135) :
    Meets Try.prog 61 ([.slice A136 p135.length c137, .func (.func 62) #[] #[]] : List Value).toArray I0 [] (fun v J M => v = .bool r ∧ M = []) := by
  have hle := ImmLe.refl I0
  unfold slices_ContainsFunc_int64_int64_at_62 at H
  refine fn_intro (fn := Try.f61) 9 Try.func61 rfl rfl rfl (fun E Fs => ?_)
  refine at_seq ?_
  refine at_reg [] [0, 1] (L2 := [(0, .slice A136 p135.length c137), (1, .func (.func 62) #[] #[])]) (obs := []) (by kernel_rfl) ?_ ?_
  · intro w hs; exact trivial
  refine at_thn ?_
  refine at_seq ?_
  refine at_ops [0, 1, 2, 3, 4] rfl ?_
  refine at_seg [0, 1] [2, 3, 4] rfl [] [5, 6] (L2 := [(5, .slice A136 p135.length c137), (6, .func (.func 62) #[] #[])]) (obs := []) (by kernel_rfl) ?_ ?_
  · intro w hs; exact trivial
  refine at_eff rfl rfl ?_
  obtain ⟨b8, H139, H⟩ := bind_some H
  have hm_ := slices_IndexFunc_int64_int64_at_62.calls (I0 := I0) H139 hr138
  refine eff_call rfl rfl ok68 rfl rfl (show Meets Try.prog 68 ([.slice A136 p135.length c137, .func (.func 62) #[] #[]] : List Value).toArray _ [] _ from hm_) (Mr := (Fs)) (List.Perm.refl _) (fun v140 J141 M142 hq143 hJ144 => ?_)
  replace hle := hle.trans hJ144
  replace hr138 := hr138.mono hJ144
  obtain ⟨rfl, rfl⟩ := hq143
  refine at_seg [3, 4] [] rfl [] [4] (L2 := [(4, .bool (decide (b8 ≥ 0)))]) (obs := []) (by kernel_rfl) ?_ ?_
  · intro w hs; exact trivial
  refine at_end ?_
  refine at_thn ?_
  refine at_ret ?_
  obtain rfl := Option.some.inj H
  refine at_done (vs := [.bool (decide (b8 ≥ 0))]) (obs := []) (.inl rfl) [.tmp 4] [] rfl (by kernel_rfl) (fun w hs => trivial) (fun w hs => ⟨_, _, [], rfl, ⟨rfl, rfl⟩, hle, hs⟩)
end Go.Proofs.Ytabdhegmepaeiaa
