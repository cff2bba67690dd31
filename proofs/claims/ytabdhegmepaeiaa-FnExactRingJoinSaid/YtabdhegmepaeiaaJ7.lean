import Derived.Test.YtabdhegmepaeiaaJ6
namespace Go.Proofs.Ytabdhegmepaeiaa
open Go Eng
set_option linter.unusedVariables false
set_option linter.unusedSimpArgs false
/-! ### loop.example/g00146/impl.RingJoin: function 26 -/
mutual
def impl_RingJoin_j1 : Nat → Bool → T_impl_Ring → (List Int) → Bool → Option T_impl_Ring
  | 0, _, _, _, _ => none
  | k + 1, x370, p77, p81, p85 => if x370 = true then ((impl_ownRing k p77).bind fun b11 => (some b11)) else (if (p77.Items.length : Int) = 0 then (impl_RingJoin_j2 k true p77 p81 p85) else (if 0 < (p77.Items.length : Int) then (impl_RingJoin_j2 k (decide ((IntKind.i64.wrap (((rdA [] p77.Items 0).length : Int) + (p81.length : Int))) > 300)) p77 p81 p85) else none))
def impl_RingJoin_j2 : Nat → Bool → T_impl_Ring → (List Int) → Bool → Option T_impl_Ring
  | 0, _, _, _, _ => none
  | k + 1, x485, p77, p81, p85 => if x485 = true then ((impl_push k p77 p81).bind fun b12 => (some b12)) else (impl_RingJoin_j0 k p77 p81 p85)
def impl_RingJoin_j0 : Nat → T_impl_Ring → (List Int) → Bool → Option T_impl_Ring
  | 0, _, _, _ => none
  | k + 1, p77, p81, p85 => (impl_ownRing k p77).bind fun b7 => (if p85 = true then (if 0 < (p77.Items.length : Int) then ((slices_Concat_int64_int64 k ([p81, rdA [] p77.Items 0] : List (List Int))).bind fun b8 => (if 0 < (b7.Items.length : Int) then (some (⟨b7.Items.set (0 : Int).toNat b8, 0⟩ : T_impl_Ring)) else none)) else none) else (if 0 < (p77.Items.length : Int) then ((slices_Concat_int64_int64 k ([rdA [] p77.Items 0, p81] : List (List Int))).bind fun b9 => (if 0 < (b7.Items.length : Int) then (some (⟨b7.Items.set (0 : Int).toNat b9, 0⟩ : T_impl_Ring)) else none)) else none))
end
def impl_RingJoin (k : Nat) (p77 : T_impl_Ring) (p81 : List Int) (p85 : Bool) : Option T_impl_Ring := (impl_isMany (p81.length : Int)).bind fun b10 => (if b10 = true then (some (⟨([] : List (List Int)), 0⟩ : T_impl_Ring)) else ((impl_RingRight k p77).bind fun b13 => (if b13 = true then ((impl_isItem k p81).bind fun b14 => (impl_RingJoin_j1 k (!b14) p77 p81 p85)) else (impl_RingJoin_j1 k true p77 p81 p85))))
set_option maxHeartbeats 4000000 in
set_option maxRecDepth 100000 in
theorem impl_RingJoin.calls {k : Nat} {p77 : T_impl_Ring} {p81 : List Int} {p85 : Bool} {r : T_impl_Ring} {I0 : Imm} {A78 : Option Addr} {c79 : Nat} {A82 : Option Addr} {c83 : Nat} (H : impl_RingJoin k p77 p81 p85 = some r) (hr80 : Rd (Kd.slice (Kd.int .i64)) I0 A78 c79 p77.Items) (hr84 : Rd (Kd.int .i64) I0 A82 c83 p81) :
    Meets Try.prog 26 ([.agg #[.slice A78 p77.Items.length c79, .int .i64 p77.At], .slice A82 p81.length c83, .bool p85] : List Value).toArray I0 [] (fun v J M => ∃ (A_1 : Option Addr) (c_2 : Nat) (s_3 : Seg), v = .agg #[.slice A_1 r.Items.length c_2, .int .i64 r.At] ∧ M = [s_3] ∧ DOwn (DK.sl (Kd.int .i64) 2) 25 J A_1 c_2 r.Items s_3) := by
  have hle := ImmLe.refl I0
  unfold impl_RingJoin at H
  refine fn_intro (fn := Try.f26) 68 Try.func26 rfl rfl rfl (fun E Fs => ?_)
  refine at_seq ?_
  refine at_ops [0, 1] rfl ?_
  refine at_eff rfl rfl ?_
  refine eff_box rfl rfl rfl #[.slice A78 p77.Items.length c79, .int .i64 p77.At] rfl (fun g86 => ?_)
  refine at_eff rfl rfl ?_
  obtain ⟨i_, hi_, hz_, _, _⟩ := info27
  refine eff_alloc rfl rfl hi_ hz_ #[.slice none ([] : List (List Int)).length 0, .int .i64 0] rfl (fun g87 => ?_)
  refine at_end ?_
  refine at_thn ?_
  refine at_join (fun L I Ms => ∃ (k189 : Nat), L = [(1, .slice A82 p81.length c83), (2, .bool p85), (3, .pointer (some ⟨g86, 0, none⟩)), (6, .pointer (some ⟨g87, 0, none⟩))] ∧ Ms = ([(g86, .cells #[.slice A78 p77.Items.length c79, .int .i64 p77.At] 27 (0, 0))] :: [(g87, .cells #[.slice none ([] : List (List Int)).length 0, .int .i64 0] 27 (0, 0))] :: Fs) ∧ impl_RingJoin_j0 k189 p77 p81 p85 = some r ∧ ImmLe I0 I ∧ k189 ≤ k ∧ Rd (Kd.slice (Kd.int .i64)) I A78 c79 p77.Items ∧ Rd (Kd.int .i64) I A82 c83 p81) ?_ ?_
  · clear H hle hr80 hr84
    intro L I Ms h_; obtain ⟨k189, hL_, hM_, H, hle, hk190, hr80, hr84⟩ := h_; rw [hL_, hM_]; clear hL_ hM_ L Ms
    rcases k189 with _ | k189
    · exact (no_none H).elim
    rw [impl_RingJoin_j0] at H
    refine at_seq ?_
    refine at_ops [0, 1, 2, 3] rfl ?_
    refine at_seg [0] [1, 2, 3] rfl [(0, .agg #[.slice A78 p77.Items.length c79, .int .i64 p77.At])] [1, 2, 3, 6, 43] (L2 := [(1, .slice A82 p81.length c83), (2, .bool p85), (3, .pointer (some ⟨g86, 0, none⟩)), (6, .pointer (some ⟨g87, 0, none⟩)), (43, .agg #[.slice A78 p77.Items.length c79, .int .i64 p77.At])]) (obs := [fun w => CellsAt w ⟨g86, 0, none⟩ [.slice A78 p77.Items.length c79, .int .i64 p77.At] 0]) (by kernel_rfl) ?_ ?_
    · intro w hs; exact cellsV (k := 0) hs rfl _ 0 (Nat.le_of_ble_eq_true (by kernel_rfl)) rfl
    refine at_eff rfl rfl ?_
    obtain ⟨b7, H191, H⟩ := bind_some H
    have hm_ := impl_ownRing.calls (I0 := I) H191 hr80
    refine eff_call rfl rfl ok34 rfl rfl (show Meets Try.prog 34 ([.agg #[.slice A78 p77.Items.length c79, .int .i64 p77.At]] : List Value).toArray _ [] _ from hm_) (Mr := ([(g86, .cells #[.slice A78 p77.Items.length c79, .int .i64 p77.At] 27 (0, 0))] :: [(g87, .cells #[.slice none ([] : List (List Int)).length 0, .int .i64 0] 27 (0, 0))] :: Fs)) (List.Perm.refl _) (fun v192 J193 M194 hq195 hJ196 => ?_)
    replace hle := hle.trans hJ196
    replace hr80 := hr80.mono hJ196
    replace hr84 := hr84.mono hJ196
    obtain ⟨A197, c198, s199, rfl, rfl, ho200⟩ := hq195
    refine at_eff rfl rfl ?_
    obtain ⟨i_, hi_, hz_, _, _⟩ := info27
    refine eff_alloc rfl rfl hi_ hz_ #[.slice none ([] : List (List Int)).length 0, .int .i64 0] rfl (fun g201 => ?_)
    refine at_eff rfl rfl ?_
    refine eff_store 0 rfl rfl rfl rfl rfl rfl (.inl (Nat.le_refl _)) rfl (Nat.le_of_ble_eq_true (by kernel_rfl)) rfl ?_
    refine at_end ?_
    refine at_thn ?_
    refine at_seq ?_
    refine at_ops [0, 1] rfl ?_
    refine at_seg [0] [1] rfl [] [1, 2, 3, 6, 7, 45] (L2 := [(1, .slice A82 p81.length c83), (2, .bool p85), (3, .pointer (some ⟨g86, 0, none⟩)), (6, .pointer (some ⟨g87, 0, none⟩)), (7, .pointer (some ⟨g201, 0, none⟩)), (45, .pointer (some ⟨g201, 1, none⟩))]) (obs := []) (by kernel_rfl) ?_ ?_
    · intro w hs; exact trivial
    refine at_eff rfl rfl ?_
    refine eff_store 0 rfl rfl rfl rfl rfl rfl (.inl (Nat.le_refl _)) rfl (Nat.le_of_ble_eq_true (by kernel_rfl)) rfl ?_
    refine at_end ?_
    refine at_thn ?_
    refine at_seq ?_
    refine at_seq ?_
    refine at_reg [] [1, 3, 6, 7, 46] (L2 := [(1, .slice A82 p81.length c83), (3, .pointer (some ⟨g86, 0, none⟩)), (6, .pointer (some ⟨g87, 0, none⟩)), (7, .pointer (some ⟨g201, 0, none⟩)), (46, .bool p85)]) (obs := []) (by kernel_rfl) ?_ ?_
    · intro w hs; exact trivial
    refine at_thn ?_
    by_cases h202 : p85 = true
    · rw [if_pos h202] at H
      refine at_cond_t rfl (h202) ?_
      obtain ⟨h203, H⟩ := ite_some H
      obtain ⟨cs208, hz209, hc204⟩ := hr80.elem [] 0 (by decide : (0 : Int) ≤ 0) h203
      obtain ⟨A205, c206, rfl, hr207⟩ := hz209
      refine at_x hmo (fun w => w.cell? ⟨g201, 0, none⟩ = some (.slice A197 b7.Items.length c198) ∧ w.cell? ⟨g86, 0, none⟩ = some (.slice A78 p77.Items.length c79) ∧ w.cell? ((A78.getD ad0).add ((0 : Int).toNat * 1)) = some (.slice A205 (rdA [] p77.Items 0).length c206)) [10] ?_
      refine at_xseg [0, 1, 2, 3, 4, 5, 6] 4 (#[true, true, true, true, true, true, true, false, false, false, false]) rfl (by kernel_rfl) [(1, .slice A197 b7.Items.length c198), (4, .slice A78 p77.Items.length c79), (6, .slice A205 (rdA [] p77.Items 0).length c206)] [6, 7, 48, 49, 53] (L2 := [(6, .pointer (some ⟨g87, 0, none⟩)), (7, .pointer (some ⟨g201, 0, none⟩)), (48, .slice A197 b7.Items.length c198), (49, .slice A82 p81.length c83), (53, .slice A205 (rdA [] p77.Items 0).length c206)]) (obs := [fun w => w.cell? ⟨g201, 0, none⟩ = some (.slice A197 b7.Items.length c198), fun w => w.cell? ⟨g86, 0, none⟩ = some (.slice A78 p77.Items.length c79), fun _ => A78.isSome = true ∧ 0 ≤ (0 : Int) ∧ (0 : Int) < ((p77.Items.length : Nat) : Int), fun w => w.cell? ((A78.getD ad0).add ((0 : Int).toNat * 1)) = some (.slice A205 (rdA [] p77.Items 0).length c206)]) (by kernel_rfl) (by kernel_rfl) (by kernel_rfl) (.inr fun w hs => ⟨hs.var (k := 0) rfl 0 rfl, hs.var (k := 2) rfl 0 rfl, cell0 (hc204 0 _ rfl hs)⟩) (fun w hS => ⟨hS.1, hS.2.1, ⟨hr80.ne 0 (by decide : (0 : Int) ≤ 0) h203, (by decide : (0 : Int) ≤ 0), h203⟩, hS.2.2⟩) (fun w hs => ⟨hs.var (k := 0) rfl 0 rfl, hs.var (k := 2) rfl 0 rfl, ⟨hr80.ne 0 (by decide : (0 : Int) ≤ 0) h203, (by decide : (0 : Int) ≤ 0), h203⟩, cell0 (hc204 0 _ rfl hs)⟩) ?_
      refine at_x1 3 7 (#[true, true, true, true, true, true, true, true, false, false, false]) rfl (by kernel_rfl) (by kernel_rfl) rfl rfl ?_
      refine eff_buildSlice (e := 25) (cells := #[.slice A82 p81.length c83, .slice A205 (rdA [] p77.Items 0).length c206]) ([p81, rdA [] p77.Items 0] : List (List Int)).length rfl rfl rfl (by kernel_rfl) (fun g210 => ?_)
      have ho211 := own_lit (K := (Kd.slice (Kd.int .i64))) (e := 25) (I := J193) (xs := ([p81, rdA [] p77.Items 0] : List (List Int))) (css := [[.slice A82 p81.length c83], [.slice A205 (rdA [] p77.Items 0).length c206]]) (cells := #[.slice A82 p81.length c83, .slice A205 (rdA [] p77.Items 0).length c206]) (b := g210) ⟨⟨A82, c83, rfl, hr84⟩, ⟨⟨A205, c206, rfl, hr207⟩, trivial⟩⟩ rfl
      refine at_xS (fun w hs => ⟨hs.var (k := 1) rfl 0 rfl, hs.var (k := 3) rfl 0 rfl, cell0 (hc204 0 _ rfl hs)⟩) ?_
      refine at_x1 2 8 (#[true, true, true, true, true, true, true, true, true, false, false]) rfl (by kernel_rfl) (by kernel_rfl) rfl rfl ?_
      obtain ⟨b8, H212, H⟩ := bind_some H
      refine eff_lend rfl rfl (post := fun v M => ∃ (A_1 : Option Addr) (c_2 : Nat) (s_3 : Seg), v = .slice A_1 b8.length c_2 ∧ M = [s_3] ∧ Own (Kd.int .i64) 2 J193 A_1 c_2 b8 s_3) (lent := [[(g210, .cells #[.slice A82 p81.length c83, .slice A205 (rdA [] p77.Items 0).length c206] 25 (0, 0))]]) (Mr := ([(g201, .cells #[.slice A197 b7.Items.length c198, .int .i64 0] 27 (0, 0))] :: s199 :: [(g86, .cells #[.slice A78 p77.Items.length c79, .int .i64 p77.At] 27 (0, 0))] :: [(g87, .cells #[.slice none ([] : List (List Int)).length 0, .int .i64 0] 27 (0, 0))] :: Fs)) ok49 rfl rfl ?_ (fun v213 M215 hq216 => ?_)
      · refine Lends.lend (k := 0) rfl (fun J218 hJ219 hin220 => ?_)
        have hm_ := slices_Concat_int64_int64.calls (I0 := J218) H212 (ho211.rd hJ219 hin220)
        exact Lends.of_meets (Mc := []) (show Meets Try.prog 49 ([.slice (some ⟨g210, 0, none⟩ : Option Addr) ([p81, rdA [] p77.Items 0] : List (List Int)).length (([p81, rdA [] p77.Items 0] : List (List Int)).length)] : List Value).toArray J218 [] _ from hm_) (fun v J M h_ => by obtain ⟨a0_, a1_, a2_, e1_, e2_, h0_⟩ := h_; exact ⟨a0_, a1_, a2_, e1_, e2_, h0_.flat (fun h => h)⟩) (List.Perm.refl _)
      obtain ⟨A221, c222, s223, rfl, rfl, ho224⟩ := hq216
      refine at_xS (fun w hs => ⟨hs.var (k := 2) rfl 0 rfl, hs.var (k := 4) rfl 0 rfl, cell0 (hc204 0 _ rfl hs)⟩) ?_
      obtain ⟨h225, H⟩ := ite_some H
      refine at_xseg [9] 1 (#[true, true, true, true, true, true, true, true, true, true, false]) rfl (by kernel_rfl) [] [6, 7, 55, 56] (L2 := [(6, .pointer (some ⟨g87, 0, none⟩)), (7, .pointer (some ⟨g201, 0, none⟩)), (55, .slice A221 b8.length c222), (56, .pointer (some ((A197.getD ad0).add ((0 : Int).toNat * 1))))]) (obs := [fun _ => A197.isSome = true ∧ 0 ≤ (0 : Int) ∧ (0 : Int) < ((b7.Items.length : Nat) : Int)]) (by kernel_rfl) (by kernel_rfl) (by kernel_rfl) (.inr fun w hs => ⟨hs.var (k := 2) rfl 0 rfl, hs.var (k := 4) rfl 0 rfl, cell0 (hc204 0 _ rfl hs)⟩) (fun w hS => ⟨ho200.ne 0 (by decide : (0 : Int) ≤ 0) h225, (by decide : (0 : Int) ≤ 0), h225⟩) (fun w hs => ⟨ho200.ne 0 (by decide : (0 : Int) ≤ 0) h225, (by decide : (0 : Int) ≤ 0), h225⟩) ?_
      refine at_x1 0 10 (#[true, true, true, true, true, true, true, true, true, true, true]) rfl (by kernel_rfl) (by kernel_rfl) rfl rfl ?_
      refine eff_storeDrow (D := (DK.sl (Kd.int .i64) 2)) (u := b8) (d := []) (i := 0) 2 1 0 rfl rfl rfl rfl ho200 (by decide) h225 rfl rfl (add0 _).symm rfl (Nat.le_of_ble_eq_true (by kernel_rfl)) rfl (fun _ _ => rfl) ho224 (fun s226 hd227 => ?_)
      have he228 : rdA [] (b7.Items.set (0 : Int).toNat b8) 0 = b8 := rdA_set _ _ (by decide) h225
      have hd229 : DOwn (DK.sl (Kd.int .i64) 2) 25 J193 A197 c198 (b7.Items.set (0 : Int).toNat b8) s226 := hd227.own
      have hi230 : OwnIn (Kd.int .i64) 2 J193 A221 c222 b8 s226 := by have h_ := hd227.inn; rw [he228] at h_; exact h_
      refine at_keep [6, 7, 56] (L2 := [(6, .pointer (some ⟨g87, 0, none⟩)), (7, .pointer (some ⟨g201, 0, none⟩)), (56, .pointer (some ((A197.getD ad0).add ((0 : Int).toNat * 1))))]) rfl ?_
      refine at_eqM (M1 := ([(g210, .cells #[.slice A82 p81.length c83, .slice A205 (rdA [] p77.Items 0).length c206] 25 (0, 0))] :: [(g201, .cells #[.slice A197 b7.Items.length c198, .int .i64 0] 27 (0, 0))] :: s226 :: [(g86, .cells #[.slice A78 p77.Items.length c79, .int .i64 p77.At] 27 (0, 0))] :: [(g87, .cells #[.slice none ([] : List (List Int)).length 0, .int .i64 0] 27 (0, 0))] :: Fs)) (M2 := ([(g210, .cells #[.slice A82 p81.length c83, .slice A205 (rdA [] p77.Items 0).length c206] 25 (0, 0))] :: [(g201, .cells #[.slice A197 (b7.Items.set (0 : Int).toNat b8).length c198, .int .i64 0] 27 (0, 0))] :: s226 :: [(g86, .cells #[.slice A78 p77.Items.length c79, .int .i64 p77.At] 27 (0, 0))] :: [(g87, .cells #[.slice none ([] : List (List Int)).length 0, .int .i64 0] 27 (0, 0))] :: Fs)) rfl (by simp only [List.length_set]) ?_
      have h231 : (0 : Int) < ((b7.Items.set (0 : Int).toNat b8).length : Int) := by simp only [List.length_set]; exact h225
      refine at_xX (by kernel_rfl) ?_
      refine at_xend (by kernel_rfl) ?_
      refine at_thn ?_
      refine at_seq ?_
      refine at_ops [0, 1] rfl ?_
      refine at_seg [0] [1] rfl [(0, .agg #[.slice A197 (b7.Items.set (0 : Int).toNat b8).length c198, .int .i64 0])] [6, 67] (L2 := [(6, .pointer (some ⟨g87, 0, none⟩)), (67, .agg #[.slice A197 (b7.Items.set (0 : Int).toNat b8).length c198, .int .i64 0])]) (obs := [fun w => CellsAt w ⟨g201, 0, none⟩ [.slice A197 (b7.Items.set (0 : Int).toNat b8).length c198, .int .i64 0] 0]) (by kernel_rfl) ?_ ?_
      · intro w hs; exact cellsV (k := 1) hs rfl _ 0 (Nat.le_of_ble_eq_true (by kernel_rfl)) rfl
      refine at_eff rfl rfl ?_
      refine eff_store 4 rfl rfl rfl rfl rfl rfl (.inl (Nat.le_refl _)) rfl (Nat.le_of_ble_eq_true (by kernel_rfl)) rfl ?_
      refine at_end ?_
      refine at_thn ?_
      refine at_ret ?_
      obtain rfl := Option.some.inj H
      refine at_drop (k := 0) rfl rfl ?_
      refine at_drop (k := 0) rfl rfl ?_
      refine at_drop (k := 1) rfl rfl ?_
      refine at_done (vs := [.agg #[.slice A197 (b7.Items.set (0 : Int).toNat b8).length c198, .int .i64 0]]) (obs := [fun w => CellsAt w ⟨g87, 0, none⟩ [.slice A197 (b7.Items.set (0 : Int).toNat b8).length c198, .int .i64 0] 0]) (.inl rfl) [.cell 6 27] [(6, .agg #[.slice A197 (b7.Items.set (0 : Int).toNat b8).length c198, .int .i64 0])] rfl (by kernel_rfl) (fun w hs => cellsV (k := 1) hs rfl _ 0 (Nat.le_of_ble_eq_true (by kernel_rfl)) rfl) (fun w hs => ⟨_, _, [s226], rfl, ⟨A197, c198, s226, rfl, rfl, hd229⟩, hle, (hs.tail (perm_at (k := 1) rfl))⟩)
    · rw [if_neg h202] at H
      refine at_cond_f rfl (ff_of h202) ?_
      obtain ⟨h232, H⟩ := ite_some H
      obtain ⟨cs237, hz238, hc233⟩ := hr80.elem [] 0 (by decide : (0 : Int) ≤ 0) h232
      obtain ⟨A234, c235, rfl, hr236⟩ := hz238
      refine at_x hmo (fun w => w.cell? ⟨g201, 0, none⟩ = some (.slice A197 b7.Items.length c198) ∧ w.cell? ⟨g86, 0, none⟩ = some (.slice A78 p77.Items.length c79) ∧ w.cell? ((A78.getD ad0).add ((0 : Int).toNat * 1)) = some (.slice A234 (rdA [] p77.Items 0).length c235)) [10] ?_
      refine at_xseg [0, 1, 2, 3, 4, 5, 6] 4 (#[true, true, true, true, true, true, true, false, false, false, false]) rfl (by kernel_rfl) [(1, .slice A197 b7.Items.length c198), (3, .slice A78 p77.Items.length c79), (5, .slice A234 (rdA [] p77.Items 0).length c235)] [6, 7, 58, 62, 63] (L2 := [(6, .pointer (some ⟨g87, 0, none⟩)), (7, .pointer (some ⟨g201, 0, none⟩)), (58, .slice A197 b7.Items.length c198), (62, .slice A234 (rdA [] p77.Items 0).length c235), (63, .slice A82 p81.length c83)]) (obs := [fun w => w.cell? ⟨g201, 0, none⟩ = some (.slice A197 b7.Items.length c198), fun w => w.cell? ⟨g86, 0, none⟩ = some (.slice A78 p77.Items.length c79), fun _ => A78.isSome = true ∧ 0 ≤ (0 : Int) ∧ (0 : Int) < ((p77.Items.length : Nat) : Int), fun w => w.cell? ((A78.getD ad0).add ((0 : Int).toNat * 1)) = some (.slice A234 (rdA [] p77.Items 0).length c235)]) (by kernel_rfl) (by kernel_rfl) (by kernel_rfl) (.inr fun w hs => ⟨hs.var (k := 0) rfl 0 rfl, hs.var (k := 2) rfl 0 rfl, cell0 (hc233 0 _ rfl hs)⟩) (fun w hS => ⟨hS.1, hS.2.1, ⟨hr80.ne 0 (by decide : (0 : Int) ≤ 0) h232, (by decide : (0 : Int) ≤ 0), h232⟩, hS.2.2⟩) (fun w hs => ⟨hs.var (k := 0) rfl 0 rfl, hs.var (k := 2) rfl 0 rfl, ⟨hr80.ne 0 (by decide : (0 : Int) ≤ 0) h232, (by decide : (0 : Int) ≤ 0), h232⟩, cell0 (hc233 0 _ rfl hs)⟩) ?_
      refine at_x1 3 7 (#[true, true, true, true, true, true, true, true, false, false, false]) rfl (by kernel_rfl) (by kernel_rfl) rfl rfl ?_
      refine eff_buildSlice (e := 25) (cells := #[.slice A234 (rdA [] p77.Items 0).length c235, .slice A82 p81.length c83]) ([rdA [] p77.Items 0, p81] : List (List Int)).length rfl rfl rfl (by kernel_rfl) (fun g239 => ?_)
      have ho240 := own_lit (K := (Kd.slice (Kd.int .i64))) (e := 25) (I := J193) (xs := ([rdA [] p77.Items 0, p81] : List (List Int))) (css := [[.slice A234 (rdA [] p77.Items 0).length c235], [.slice A82 p81.length c83]]) (cells := #[.slice A234 (rdA [] p77.Items 0).length c235, .slice A82 p81.length c83]) (b := g239) ⟨⟨A234, c235, rfl, hr236⟩, ⟨⟨A82, c83, rfl, hr84⟩, trivial⟩⟩ rfl
      refine at_xS (fun w hs => ⟨hs.var (k := 1) rfl 0 rfl, hs.var (k := 3) rfl 0 rfl, cell0 (hc233 0 _ rfl hs)⟩) ?_
      refine at_x1 2 8 (#[true, true, true, true, true, true, true, true, true, false, false]) rfl (by kernel_rfl) (by kernel_rfl) rfl rfl ?_
      obtain ⟨b9, H241, H⟩ := bind_some H
      refine eff_lend rfl rfl (post := fun v M => ∃ (A_1 : Option Addr) (c_2 : Nat) (s_3 : Seg), v = .slice A_1 b9.length c_2 ∧ M = [s_3] ∧ Own (Kd.int .i64) 2 J193 A_1 c_2 b9 s_3) (lent := [[(g239, .cells #[.slice A234 (rdA [] p77.Items 0).length c235, .slice A82 p81.length c83] 25 (0, 0))]]) (Mr := ([(g201, .cells #[.slice A197 b7.Items.length c198, .int .i64 0] 27 (0, 0))] :: s199 :: [(g86, .cells #[.slice A78 p77.Items.length c79, .int .i64 p77.At] 27 (0, 0))] :: [(g87, .cells #[.slice none ([] : List (List Int)).length 0, .int .i64 0] 27 (0, 0))] :: Fs)) ok49 rfl rfl ?_ (fun v242 M244 hq245 => ?_)
      · refine Lends.lend (k := 0) rfl (fun J247 hJ248 hin249 => ?_)
        have hm_ := slices_Concat_int64_int64.calls (I0 := J247) H241 (ho240.rd hJ248 hin249)
        exact Lends.of_meets (Mc := []) (show Meets Try.prog 49 ([.slice (some ⟨g239, 0, none⟩ : Option Addr) ([rdA [] p77.Items 0, p81] : List (List Int)).length (([rdA [] p77.Items 0, p81] : List (List Int)).length)] : List Value).toArray J247 [] _ from hm_) (fun v J M h_ => by obtain ⟨a0_, a1_, a2_, e1_, e2_, h0_⟩ := h_; exact ⟨a0_, a1_, a2_, e1_, e2_, h0_.flat (fun h => h)⟩) (List.Perm.refl _)
      obtain ⟨A250, c251, s252, rfl, rfl, ho253⟩ := hq245
      refine at_xS (fun w hs => ⟨hs.var (k := 2) rfl 0 rfl, hs.var (k := 4) rfl 0 rfl, cell0 (hc233 0 _ rfl hs)⟩) ?_
      obtain ⟨h254, H⟩ := ite_some H
      refine at_xseg [9] 1 (#[true, true, true, true, true, true, true, true, true, true, false]) rfl (by kernel_rfl) [] [6, 7, 65, 66] (L2 := [(6, .pointer (some ⟨g87, 0, none⟩)), (7, .pointer (some ⟨g201, 0, none⟩)), (65, .slice A250 b9.length c251), (66, .pointer (some ((A197.getD ad0).add ((0 : Int).toNat * 1))))]) (obs := [fun _ => A197.isSome = true ∧ 0 ≤ (0 : Int) ∧ (0 : Int) < ((b7.Items.length : Nat) : Int)]) (by kernel_rfl) (by kernel_rfl) (by kernel_rfl) (.inr fun w hs => ⟨hs.var (k := 2) rfl 0 rfl, hs.var (k := 4) rfl 0 rfl, cell0 (hc233 0 _ rfl hs)⟩) (fun w hS => ⟨ho200.ne 0 (by decide : (0 : Int) ≤ 0) h254, (by decide : (0 : Int) ≤ 0), h254⟩) (fun w hs => ⟨ho200.ne 0 (by decide : (0 : Int) ≤ 0) h254, (by decide : (0 : Int) ≤ 0), h254⟩) ?_
      refine at_x1 0 10 (#[true, true, true, true, true, true, true, true, true, true, true]) rfl (by kernel_rfl) (by kernel_rfl) rfl rfl ?_
      refine eff_storeDrow (D := (DK.sl (Kd.int .i64) 2)) (u := b9) (d := []) (i := 0) 2 1 0 rfl rfl rfl rfl ho200 (by decide) h254 rfl rfl (add0 _).symm rfl (Nat.le_of_ble_eq_true (by kernel_rfl)) rfl (fun _ _ => rfl) ho253 (fun s255 hd256 => ?_)
      have he257 : rdA [] (b7.Items.set (0 : Int).toNat b9) 0 = b9 := rdA_set _ _ (by decide) h254
      have hd258 : DOwn (DK.sl (Kd.int .i64) 2) 25 J193 A197 c198 (b7.Items.set (0 : Int).toNat b9) s255 := hd256.own
      have hi259 : OwnIn (Kd.int .i64) 2 J193 A250 c251 b9 s255 := by have h_ := hd256.inn; rw [he257] at h_; exact h_
      refine at_keep [6, 7, 66] (L2 := [(6, .pointer (some ⟨g87, 0, none⟩)), (7, .pointer (some ⟨g201, 0, none⟩)), (66, .pointer (some ((A197.getD ad0).add ((0 : Int).toNat * 1))))]) rfl ?_
      refine at_eqM (M1 := ([(g239, .cells #[.slice A234 (rdA [] p77.Items 0).length c235, .slice A82 p81.length c83] 25 (0, 0))] :: [(g201, .cells #[.slice A197 b7.Items.length c198, .int .i64 0] 27 (0, 0))] :: s255 :: [(g86, .cells #[.slice A78 p77.Items.length c79, .int .i64 p77.At] 27 (0, 0))] :: [(g87, .cells #[.slice none ([] : List (List Int)).length 0, .int .i64 0] 27 (0, 0))] :: Fs)) (M2 := ([(g239, .cells #[.slice A234 (rdA [] p77.Items 0).length c235, .slice A82 p81.length c83] 25 (0, 0))] :: [(g201, .cells #[.slice A197 (b7.Items.set (0 : Int).toNat b9).length c198, .int .i64 0] 27 (0, 0))] :: s255 :: [(g86, .cells #[.slice A78 p77.Items.length c79, .int .i64 p77.At] 27 (0, 0))] :: [(g87, .cells #[.slice none ([] : List (List Int)).length 0, .int .i64 0] 27 (0, 0))] :: Fs)) rfl (by simp only [List.length_set]) ?_
      have h260 : (0 : Int) < ((b7.Items.set (0 : Int).toNat b9).length : Int) := by simp only [List.length_set]; exact h254
      refine at_xX (by kernel_rfl) ?_
      refine at_xend (by kernel_rfl) ?_
      refine at_thn ?_
      refine at_seq ?_
      refine at_ops [0, 1] rfl ?_
      refine at_seg [0] [1] rfl [(0, .agg #[.slice A197 (b7.Items.set (0 : Int).toNat b9).length c198, .int .i64 0])] [6, 67] (L2 := [(6, .pointer (some ⟨g87, 0, none⟩)), (67, .agg #[.slice A197 (b7.Items.set (0 : Int).toNat b9).length c198, .int .i64 0])]) (obs := [fun w => CellsAt w ⟨g201, 0, none⟩ [.slice A197 (b7.Items.set (0 : Int).toNat b9).length c198, .int .i64 0] 0]) (by kernel_rfl) ?_ ?_
      · intro w hs; exact cellsV (k := 1) hs rfl _ 0 (Nat.le_of_ble_eq_true (by kernel_rfl)) rfl
      refine at_eff rfl rfl ?_
      refine eff_store 4 rfl rfl rfl rfl rfl rfl (.inl (Nat.le_refl _)) rfl (Nat.le_of_ble_eq_true (by kernel_rfl)) rfl ?_
      refine at_end ?_
      refine at_thn ?_
      refine at_ret ?_
      obtain rfl := Option.some.inj H
      refine at_drop (k := 0) rfl rfl ?_
      refine at_drop (k := 0) rfl rfl ?_
      refine at_drop (k := 1) rfl rfl ?_
      refine at_done (vs := [.agg #[.slice A197 (b7.Items.set (0 : Int).toNat b9).length c198, .int .i64 0]]) (obs := [fun w => CellsAt w ⟨g87, 0, none⟩ [.slice A197 (b7.Items.set (0 : Int).toNat b9).length c198, .int .i64 0] 0]) (.inl rfl) [.cell 6 27] [(6, .agg #[.slice A197 (b7.Items.set (0 : Int).toNat b9).length c198, .int .i64 0])] rfl (by kernel_rfl) (fun w hs => cellsV (k := 1) hs rfl _ 0 (Nat.le_of_ble_eq_true (by kernel_rfl)) rfl) (fun w hs => ⟨_, _, [s255], rfl, ⟨A197, c198, s255, rfl, rfl, hd258⟩, hle, (hs.tail (perm_at (k := 1) rfl))⟩)
  · intro Jn88
    refine at_block ?_
    refine at_seq ?_
    refine at_ops [0, 1, 2, 3] rfl ?_
    refine at_seg [0, 1] [2, 3] rfl [] [1, 2, 3, 6, 10] (L2 := [(1, .slice A82 p81.length c83), (2, .bool p85), (3, .pointer (some ⟨g86, 0, none⟩)), (6, .pointer (some ⟨g87, 0, none⟩)), (10, .int .i64 (p81.length : Int))]) (obs := []) (by kernel_rfl) ?_ ?_
    · intro w hs; exact trivial
    refine at_eff rfl rfl ?_
    obtain ⟨b10, H261, H⟩ := bind_some H
    have hm_ := impl_isMany.calls (I0 := I0) H261
    refine eff_call rfl rfl ok32 rfl rfl (show Meets Try.prog 32 ([.int .i64 (p81.length : Int)] : List Value).toArray _ [] _ from hm_) (Mr := ([(g87, .cells #[.slice none ([] : List (List Int)).length 0, .int .i64 0] 27 (0, 0))] :: [(g86, .cells #[.slice A78 p77.Items.length c79, .int .i64 p77.At] 27 (0, 0))] :: Fs)) (List.Perm.refl _) (fun v262 J263 M264 hq265 hJ266 => ?_)
    replace hle := hle.trans hJ266
    replace hr80 := hr80.mono hJ266
    replace hr84 := hr84.mono hJ266
    obtain ⟨rfl, rfl⟩ := hq265
    refine at_seg [3] [] rfl [] [1, 2, 3, 6, 8] (L2 := [(1, .slice A82 p81.length c83), (2, .bool p85), (3, .pointer (some ⟨g86, 0, none⟩)), (6, .pointer (some ⟨g87, 0, none⟩)), (8, .bool b10)]) (obs := []) (by kernel_rfl) ?_ ?_
    · intro w hs; exact trivial
    refine at_end ?_
    refine at_thn ?_
    by_cases h267 : b10 = true
    · rw [if_pos h267] at H
      refine at_cond_t rfl (h267) ?_
      refine at_seq ?_
      refine at_ops [0, 1] rfl ?_
      refine at_seg [0] [1] rfl [] [6, 12] (L2 := [(6, .pointer (some ⟨g87, 0, none⟩)), (12, .agg #[.slice none ([] : List (List Int)).length 0, .int .i64 0])]) (obs := []) (by kernel_rfl) ?_ ?_
      · intro w hs; exact trivial
      refine at_eff rfl rfl ?_
      refine eff_store 0 rfl rfl rfl rfl rfl rfl (.inl (Nat.le_refl _)) rfl (Nat.le_of_ble_eq_true (by kernel_rfl)) rfl ?_
      refine at_end ?_
      refine at_thn ?_
      refine at_ret ?_
      refine at_in_ret ?_
      refine at_then_ret ?_
      refine at_nilseg ?_
      have hd268 := DOwn.nil (DK.sl (Kd.int .i64) 2) 25 J263
      obtain rfl := Option.some.inj H
      refine at_drop (k := 2) rfl rfl ?_
      refine at_done (vs := [.agg #[.slice none ([] : List (List Int)).length 0, .int .i64 0]]) (obs := [fun w => CellsAt w ⟨g87, 0, none⟩ [.slice none ([] : List (List Int)).length 0, .int .i64 0] 0]) (.inl rfl) [.cell 6 27] [(6, .agg #[.slice none ([] : List (List Int)).length 0, .int .i64 0])] rfl (by kernel_rfl) (fun w hs => cellsV (k := 1) hs rfl _ 0 (Nat.le_of_ble_eq_true (by kernel_rfl)) rfl) (fun w hs => ⟨_, _, [[]], rfl, ⟨none, 0, [], rfl, rfl, hd268⟩, hle, (hs.tail (perm_at (k := 1) rfl))⟩)
    · rw [if_neg h267] at H
      refine at_cond_f rfl (ff_of h267) ?_
      refine at_join (fun L I Ms => ∃ (k371 : Nat), ∃ (x370 : Bool), L = [(1, .slice A82 p81.length c83), (2, .bool p85), (3, .pointer (some ⟨g86, 0, none⟩)), (6, .pointer (some ⟨g87, 0, none⟩)), (13, .bool x370)] ∧ Ms = ([(g86, .cells #[.slice A78 p77.Items.length c79, .int .i64 p77.At] 27 (0, 0))] :: [(g87, .cells #[.slice none ([] : List (List Int)).length 0, .int .i64 0] 27 (0, 0))] :: Fs) ∧ impl_RingJoin_j1 k371 x370 p77 p81 p85 = some r ∧ ImmLe I0 I ∧ k371 ≤ k ∧ Rd (Kd.slice (Kd.int .i64)) I A78 c79 p77.Items ∧ Rd (Kd.int .i64) I A82 c83 p81) ?_ ?_
      · clear H hle hr80 hr84
        intro L I Ms h_; obtain ⟨k371, x370, hL_, hM_, H, hle, hk372, hr80, hr84⟩ := h_; rw [hL_, hM_]; clear hL_ hM_ L Ms
        rcases k371 with _ | k371
        · exact (no_none H).elim
        rw [impl_RingJoin_j1] at H
        by_cases h373 : x370 = true
        · rw [if_pos h373] at H
          refine at_cond_t rfl (h373) ?_
          refine at_seq ?_
          refine at_ops [0, 1, 2] rfl ?_
          refine at_seg [0] [1, 2] rfl [(0, .agg #[.slice A78 p77.Items.length c79, .int .i64 p77.At])] [6, 22] (L2 := [(6, .pointer (some ⟨g87, 0, none⟩)), (22, .agg #[.slice A78 p77.Items.length c79, .int .i64 p77.At])]) (obs := [fun w => CellsAt w ⟨g86, 0, none⟩ [.slice A78 p77.Items.length c79, .int .i64 p77.At] 0]) (by kernel_rfl) ?_ ?_
          · intro w hs; exact cellsV (k := 0) hs rfl _ 0 (Nat.le_of_ble_eq_true (by kernel_rfl)) rfl
          refine at_eff rfl rfl ?_
          obtain ⟨b11, H374, H⟩ := bind_some H
          have hm_ := impl_ownRing.calls (I0 := I) H374 hr80
          refine eff_call rfl rfl ok34 rfl rfl (show Meets Try.prog 34 ([.agg #[.slice A78 p77.Items.length c79, .int .i64 p77.At]] : List Value).toArray _ [] _ from hm_) (Mr := ([(g86, .cells #[.slice A78 p77.Items.length c79, .int .i64 p77.At] 27 (0, 0))] :: [(g87, .cells #[.slice none ([] : List (List Int)).length 0, .int .i64 0] 27 (0, 0))] :: Fs)) (List.Perm.refl _) (fun v375 J376 M377 hq378 hJ379 => ?_)
          replace hle := hle.trans hJ379
          replace hr80 := hr80.mono hJ379
          obtain ⟨A380, c381, s382, rfl, rfl, ho383⟩ := hq378
          refine at_eff rfl rfl ?_
          refine eff_store 2 rfl rfl rfl rfl rfl rfl (.inl (Nat.le_refl _)) rfl (Nat.le_of_ble_eq_true (by kernel_rfl)) rfl ?_
          refine at_end ?_
          refine at_thn ?_
          refine at_ret ?_
          refine at_in_ret ?_
          refine at_then_ret ?_
          obtain rfl := Option.some.inj H
          refine at_drop (k := 1) rfl rfl ?_
          refine at_done (vs := [.agg #[.slice A380 b11.Items.length c381, .int .i64 b11.At]]) (obs := [fun w => CellsAt w ⟨g87, 0, none⟩ [.slice A380 b11.Items.length c381, .int .i64 b11.At] 0]) (.inl rfl) [.cell 6 27] [(6, .agg #[.slice A380 b11.Items.length c381, .int .i64 b11.At])] rfl (by kernel_rfl) (fun w hs => cellsV (k := 1) hs rfl _ 0 (Nat.le_of_ble_eq_true (by kernel_rfl)) rfl) (fun w hs => ⟨_, _, [s382], rfl, ⟨A380, c381, s382, rfl, rfl, ho383⟩, hle, (hs.tail (perm_at (k := 1) rfl))⟩)
        · rw [if_neg h373] at H
          refine at_cond_f rfl (ff_of h373) ?_
          refine at_join (fun L I Ms => ∃ (k486 : Nat), ∃ (x485 : Bool), L = [(1, .slice A82 p81.length c83), (2, .bool p85), (3, .pointer (some ⟨g86, 0, none⟩)), (6, .pointer (some ⟨g87, 0, none⟩)), (24, .bool x485)] ∧ Ms = ([(g86, .cells #[.slice A78 p77.Items.length c79, .int .i64 p77.At] 27 (0, 0))] :: [(g87, .cells #[.slice none ([] : List (List Int)).length 0, .int .i64 0] 27 (0, 0))] :: Fs) ∧ impl_RingJoin_j2 k486 x485 p77 p81 p85 = some r ∧ ImmLe I0 I ∧ k486 ≤ k371 ∧ Rd (Kd.slice (Kd.int .i64)) I A78 c79 p77.Items ∧ Rd (Kd.int .i64) I A82 c83 p81) ?_ ?_
          · clear H hle hr80 hr84
            intro L I Ms h_; obtain ⟨k486, x485, hL_, hM_, H, hle, hk487, hr80, hr84⟩ := h_; rw [hL_, hM_]; clear hL_ hM_ L Ms
            rcases k486 with _ | k486
            · exact (no_none H).elim
            rw [impl_RingJoin_j2] at H
            by_cases h488 : x485 = true
            · rw [if_pos h488] at H
              refine at_cond_t rfl (h488) ?_
              refine at_seq ?_
              refine at_ops [0, 1, 2, 3] rfl ?_
              refine at_seg [0, 1] [2, 3] rfl [(0, .agg #[.slice A78 p77.Items.length c79, .int .i64 p77.At])] [6, 40, 41] (L2 := [(6, .pointer (some ⟨g87, 0, none⟩)), (40, .agg #[.slice A78 p77.Items.length c79, .int .i64 p77.At]), (41, .slice A82 p81.length c83)]) (obs := [fun w => CellsAt w ⟨g86, 0, none⟩ [.slice A78 p77.Items.length c79, .int .i64 p77.At] 0]) (by kernel_rfl) ?_ ?_
              · intro w hs; exact cellsV (k := 0) hs rfl _ 0 (Nat.le_of_ble_eq_true (by kernel_rfl)) rfl
              refine at_eff rfl rfl ?_
              obtain ⟨b12, H489, H⟩ := bind_some H
              have hm_ := impl_push.calls (I0 := I) H489 hr80 hr84
              refine eff_call rfl rfl ok35 rfl rfl (show Meets Try.prog 35 ([.agg #[.slice A78 p77.Items.length c79, .int .i64 p77.At], .slice A82 p81.length c83] : List Value).toArray _ [] _ from hm_) (Mr := ([(g86, .cells #[.slice A78 p77.Items.length c79, .int .i64 p77.At] 27 (0, 0))] :: [(g87, .cells #[.slice none ([] : List (List Int)).length 0, .int .i64 0] 27 (0, 0))] :: Fs)) (List.Perm.refl _) (fun v490 J491 M492 hq493 hJ494 => ?_)
              replace hle := hle.trans hJ494
              replace hr80 := hr80.mono hJ494
              replace hr84 := hr84.mono hJ494
              obtain ⟨A495, c496, s497, rfl, rfl, ho498⟩ := hq493
              refine at_eff rfl rfl ?_
              refine eff_store 2 rfl rfl rfl rfl rfl rfl (.inl (Nat.le_refl _)) rfl (Nat.le_of_ble_eq_true (by kernel_rfl)) rfl ?_
              refine at_end ?_
              refine at_thn ?_
              refine at_ret ?_
              refine at_in_ret ?_
              refine at_then_ret ?_
              obtain rfl := Option.some.inj H
              refine at_drop (k := 1) rfl rfl ?_
              refine at_done (vs := [.agg #[.slice A495 b12.Items.length c496, .int .i64 b12.At]]) (obs := [fun w => CellsAt w ⟨g87, 0, none⟩ [.slice A495 b12.Items.length c496, .int .i64 b12.At] 0]) (.inl rfl) [.cell 6 27] [(6, .agg #[.slice A495 b12.Items.length c496, .int .i64 b12.At])] rfl (by kernel_rfl) (fun w hs => cellsV (k := 1) hs rfl _ 0 (Nat.le_of_ble_eq_true (by kernel_rfl)) rfl) (fun w hs => ⟨_, _, [s497], rfl, ⟨A495, c496, s497, rfl, rfl, ho498⟩, hle, (hs.tail (perm_at (k := 1) rfl))⟩)
            · rw [if_neg h488] at H
              refine at_cond_f rfl (ff_of h488) ?_
              refine at_skip ?_
              refine at_in_norm ?_
              refine at_thn ?_
              refine at_keep [1, 2, 3, 6] (L2 := [(1, .slice A82 p81.length c83), (2, .bool p85), (3, .pointer (some ⟨g86, 0, none⟩)), (6, .pointer (some ⟨g87, 0, none⟩))]) rfl ?_
              exact Jn88 _ _ _ ⟨_, rfl, rfl, H, hle, by omega, hr80, hr84⟩
          · intro Jn384
            by_cases h499 : (p77.Items.length : Int) = 0
            · rw [if_pos h499] at H
              refine at_reg [(1, .slice A78 p77.Items.length c79), (4, .bool true)] [1, 2, 3, 6, 24] (L2 := [(1, .slice A82 p81.length c83), (2, .bool p85), (3, .pointer (some ⟨g86, 0, none⟩)), (6, .pointer (some ⟨g87, 0, none⟩)), (24, .bool true)]) (obs := [fun w => w.cell? ⟨g86, 0, none⟩ = some (.slice A78 p77.Items.length c79), fun _ => (.bool ((p77.Items.length : Int) == 0) : Value) = .bool true]) (by kernel_rfl) ?_ ?_
              · intro w hs; exact ⟨hs.var (k := 0) rfl 0 rfl, congrArg Value.bool (beq_iff_eq.2 h499)⟩
              refine at_thn ?_
              refine at_keep [1, 2, 3, 6, 24] (L2 := [(1, .slice A82 p81.length c83), (2, .bool p85), (3, .pointer (some ⟨g86, 0, none⟩)), (6, .pointer (some ⟨g87, 0, none⟩)), (24, .bool true)]) rfl ?_
              exact Jn384 _ _ _ ⟨_, true, rfl, rfl, H, hle, by omega, hr80, hr84⟩
            · rw [if_neg h499] at H
              obtain ⟨h500, H⟩ := ite_some H
              obtain ⟨cs505, hz506, hc501⟩ := hr80.elem [] 0 (by decide : (0 : Int) ≤ 0) h500
              obtain ⟨A502, c503, rfl, hr504⟩ := hz506
              refine at_reg [(1, .slice A78 p77.Items.length c79), (4, .bool false), (6, .slice A78 p77.Items.length c79), (8, .slice A502 (rdA [] p77.Items 0).length c503)] [1, 2, 3, 6, 24] (L2 := [(1, .slice A82 p81.length c83), (2, .bool p85), (3, .pointer (some ⟨g86, 0, none⟩)), (6, .pointer (some ⟨g87, 0, none⟩)), (24, .bool (decide ((IntKind.i64.wrap (((rdA [] p77.Items 0).length : Int) + (p81.length : Int))) > 300)))]) (obs := [fun w => w.cell? ⟨g86, 0, none⟩ = some (.slice A78 p77.Items.length c79), fun _ => (.bool ((p77.Items.length : Int) == 0) : Value) = .bool false, fun w => w.cell? ⟨g86, 0, none⟩ = some (.slice A78 p77.Items.length c79), fun _ => A78.isSome = true ∧ 0 ≤ (0 : Int) ∧ (0 : Int) < ((p77.Items.length : Nat) : Int), fun w => w.cell? ((A78.getD ad0).add ((0 : Int).toNat * 1)) = some (.slice A502 (rdA [] p77.Items 0).length c503)]) (by kernel_rfl) ?_ ?_
              · intro w hs; exact ⟨hs.var (k := 0) rfl 0 rfl, congrArg Value.bool (beq_eq_false_iff_ne.2 h499), hs.var (k := 0) rfl 0 rfl, ⟨hr80.ne 0 (by decide : (0 : Int) ≤ 0) h500, (by decide : (0 : Int) ≤ 0), h500⟩, cell0 (hc501 0 _ rfl hs)⟩
              refine at_thn ?_
              refine at_keep [1, 2, 3, 6, 24] (L2 := [(1, .slice A82 p81.length c83), (2, .bool p85), (3, .pointer (some ⟨g86, 0, none⟩)), (6, .pointer (some ⟨g87, 0, none⟩)), (24, .bool (decide ((IntKind.i64.wrap (((rdA [] p77.Items 0).length : Int) + (p81.length : Int))) > 300)))]) rfl ?_
              exact Jn384 _ _ _ ⟨_, decide ((IntKind.i64.wrap (((rdA [] p77.Items 0).length : Int) + (p81.length : Int))) > 300), rfl, rfl, H, hle, by omega, hr80, hr84⟩
      · intro Jn269
        refine at_ops [0, 1, 2, 3, 4, 5, 6, 7, 8] rfl ?_
        refine at_seg [0] [1, 2, 3, 4, 5, 6, 7, 8] rfl [(0, .agg #[.slice A78 p77.Items.length c79, .int .i64 p77.At])] [1, 2, 3, 6, 14] (L2 := [(1, .slice A82 p81.length c83), (2, .bool p85), (3, .pointer (some ⟨g86, 0, none⟩)), (6, .pointer (some ⟨g87, 0, none⟩)), (14, .agg #[.slice A78 p77.Items.length c79, .int .i64 p77.At])]) (obs := [fun w => CellsAt w ⟨g86, 0, none⟩ [.slice A78 p77.Items.length c79, .int .i64 p77.At] 0]) (by kernel_rfl) ?_ ?_
        · intro w hs; exact cellsV (k := 1) hs rfl _ 0 (Nat.le_of_ble_eq_true (by kernel_rfl)) rfl
        refine at_eff rfl rfl ?_
        obtain ⟨b13, H507, H⟩ := bind_some H
        have hm_ := impl_RingRight.calls (I0 := J263) H507 hr80
        refine eff_call rfl rfl ok21 rfl rfl (show Meets Try.prog 21 ([.agg #[.slice A78 p77.Items.length c79, .int .i64 p77.At]] : List Value).toArray _ [] _ from hm_) (Mr := ([(g87, .cells #[.slice none ([] : List (List Int)).length 0, .int .i64 0] 27 (0, 0))] :: [(g86, .cells #[.slice A78 p77.Items.length c79, .int .i64 p77.At] 27 (0, 0))] :: Fs)) (List.Perm.refl _) (fun v508 J509 M510 hq511 hJ512 => ?_)
        replace hle := hle.trans hJ512
        replace hr80 := hr80.mono hJ512
        replace hr84 := hr84.mono hJ512
        obtain ⟨rfl, rfl⟩ := hq511
        by_cases h513 : b13 = true
        · rw [if_pos h513] at H
          refine at_seg [2, 3, 4] [5, 6, 7, 8] rfl [(3, .bool false)] [1, 2, 3, 6, 17, 18] (L2 := [(1, .slice A82 p81.length c83), (2, .bool p85), (3, .pointer (some ⟨g86, 0, none⟩)), (6, .pointer (some ⟨g87, 0, none⟩)), (17, .bool false), (18, .slice A82 p81.length c83)]) (obs := [fun _ => (.bool (!b13) : Value) = .bool false]) (by kernel_rfl) ?_ ?_
          · intro w hs; exact congrArg Value.bool (not_ff (h513))
          refine at_eff rfl rfl ?_
          obtain ⟨b14, H514, H⟩ := bind_some H
          have hm_ := impl_isItem.calls (I0 := J509) H514 hr84
          refine eff_call rfl rfl ok33 rfl rfl (show Meets Try.prog 33 ([.slice A82 p81.length c83] : List Value).toArray _ [] _ from hm_) (Mr := ([(g87, .cells #[.slice none ([] : List (List Int)).length 0, .int .i64 0] 27 (0, 0))] :: [(g86, .cells #[.slice A78 p77.Items.length c79, .int .i64 p77.At] 27 (0, 0))] :: Fs)) (List.Perm.refl _) (fun v515 J516 M517 hq518 hJ519 => ?_)
          replace hle := hle.trans hJ519
          replace hr80 := hr80.mono hJ519
          replace hr84 := hr84.mono hJ519
          obtain ⟨rfl, rfl⟩ := hq518
          refine at_seg [6, 7, 8] [] rfl [] [1, 2, 3, 6, 13] (L2 := [(1, .slice A82 p81.length c83), (2, .bool p85), (3, .pointer (some ⟨g86, 0, none⟩)), (6, .pointer (some ⟨g87, 0, none⟩)), (13, .bool (!b14))]) (obs := []) (by kernel_rfl) ?_ ?_
          · intro w hs; exact trivial
          refine at_end ?_
          refine at_thn ?_
          refine at_perm ((perm_at (k := 1) rfl).trans ((List.Perm.refl _).cons _)) ?_
          refine at_keep [1, 2, 3, 6, 13] (L2 := [(1, .slice A82 p81.length c83), (2, .bool p85), (3, .pointer (some ⟨g86, 0, none⟩)), (6, .pointer (some ⟨g87, 0, none⟩)), (13, .bool (!b14))]) rfl ?_
          exact Jn269 _ _ _ ⟨_, (!b14), rfl, rfl, H, hle, by omega, hr80, hr84⟩
        · rw [if_neg h513] at H
          refine at_seg [2, 3, 4] [5, 6, 7, 8] rfl [(3, .bool true)] [1, 2, 3, 6, 17, 18] (L2 := [(1, .slice A82 p81.length c83), (2, .bool p85), (3, .pointer (some ⟨g86, 0, none⟩)), (6, .pointer (some ⟨g87, 0, none⟩)), (17, .bool true), (18, undef)]) (obs := [fun _ => (.bool (!b13) : Value) = .bool true]) (by kernel_rfl) ?_ ?_
          · intro w hs; exact congrArg Value.bool (not_tt (ff_of h513))
          refine at_seg [5, 6, 7, 8] [] rfl [] [1, 2, 3, 6, 13] (L2 := [(1, .slice A82 p81.length c83), (2, .bool p85), (3, .pointer (some ⟨g86, 0, none⟩)), (6, .pointer (some ⟨g87, 0, none⟩)), (13, .bool true)]) (obs := []) (by kernel_rfl) ?_ ?_
          · intro w hs; exact trivial
          refine at_end ?_
          refine at_thn ?_
          refine at_perm ((perm_at (k := 1) rfl).trans ((List.Perm.refl _).cons _)) ?_
          refine at_keep [1, 2, 3, 6, 13] (L2 := [(1, .slice A82 p81.length c83), (2, .bool p85), (3, .pointer (some ⟨g86, 0, none⟩)), (6, .pointer (some ⟨g87, 0, none⟩)), (13, .bool true)]) rfl ?_
          exact Jn269 _ _ _ ⟨_, true, rfl, rfl, H, hle, by omega, hr80, hr84⟩

/-! ### loop.example/g00146/laws.eqInt64S: function 12 -/
def laws_eqInt64S_l0 : Nat → Int → (List Int) → (List Int) → Option Bool
  | 0, _, _, _ => none
  | k + 1, x137, p128, p132 => if x137 < (p128.length : Int) then (if 0 ≤ x137 then (if x137 < (p132.length : Int) then (if (rdA 0 p128 x137) = (rdA 0 p132 x137) then (laws_eqInt64S_l0 k (IntKind.i64.wrap (x137 + 1)) p128 p132) else (some false)) else none) else none) else (some true)
def laws_eqInt64S (k : Nat) (p128 : List Int) (p132 : List Int) : Option Bool := if (p128.length : Int) = (p132.length : Int) then (laws_eqInt64S_l0 k 0 p128 p132) else (some false)
set_option maxHeartbeats 4000000 in
set_option maxRecDepth 100000 in
theorem laws_eqInt64S.calls {k : Nat} {p128 : List Int} {p132 : List Int} {r : Bool} {I0 : Imm} {A129 : Option Addr} {c130 : Nat} {A133 : Option Addr} {c134 : Nat} (H : laws_eqInt64S k p128 p132 = some r) (hr131 : Rd (Kd.int .i64) I0 A129 c130 p128) (hr135 : Rd (Kd.int .i64) I0 A133 c134 p132) :
    Meets Try.prog 12 ([.slice A129 p128.length c130, .slice A133 p132.length c134] : List Value).toArray I0 [] (fun v J M => v = .bool r ∧ M = []) := by
  have hle := ImmLe.refl I0
  unfold laws_eqInt64S at H
  refine fn_intro (fn := Try.f12) 26 Try.func12 rfl rfl rfl (fun E Fs => ?_)
  refine at_seq ?_
  refine at_reg [] [0, 1] (L2 := [(0, .slice A129 p128.length c130), (1, .slice A133 p132.length c134)]) (obs := []) (by kernel_rfl) ?_ ?_
  · intro w hs; exact trivial
  refine at_thn ?_
  refine at_seq ?_
  refine at_seq ?_
  refine at_reg [] [0, 1, 10] (L2 := [(0, .slice A129 p128.length c130), (1, .slice A133 p132.length c134), (10, .bool ((p128.length : Int) != (p132.length : Int)))]) (obs := []) (by kernel_rfl) ?_ ?_
  · intro w hs; exact trivial
  refine at_thn ?_
  by_cases h136 : (p128.length : Int) = (p132.length : Int)
  · rw [if_pos h136] at H
    refine at_cond_f rfl (bne_eq_false_iff_eq.2 h136) ?_
    refine at_skip ?_
    refine at_thn ?_
    refine at_seq ?_
    refine at_seq ?_
    refine at_reg [] [0, 1, 5] (L2 := [(0, .slice A129 p128.length c130), (1, .slice A133 p132.length c134), (5, .int .i64 0)]) (obs := []) (by kernel_rfl) ?_ ?_
    · intro w hs; exact trivial
    refine at_thn ?_
    refine at_block ?_
    refine at_keep [0, 1, 5] (L2 := [(0, .slice A129 p128.length c130), (1, .slice A133 p132.length c134), (5, .int .i64 0)]) rfl ?_
    refine at_loop (fun k138 L I Ms => ∃ (x137 : Int), L = [(0, .slice A129 p128.length c130), (1, .slice A133 p132.length c134), (5, .int .i64 x137)] ∧ Ms = ([] ++ Fs) ∧ laws_eqInt64S_l0 k138 x137 p128 p132 = some r ∧ ImmLe I0 I ∧ k138 ≤ k ∧ Rd (Kd.int .i64) I A129 c130 p128 ∧ Rd (Kd.int .i64) I A133 c134 p132) ?_ ?_ k ⟨0, rfl, rfl, H, hle, Nat.le_refl _, hr131, hr135⟩
    · rintro L I Ms ⟨_, rfl, rfl, H, _⟩; exact no_none H
    · clear H hle hr131 hr135
      intro k138 ih139 L I Ms h_; obtain ⟨x137, hL_, hM_, H, hle, hk140, hr131, hr135⟩ := h_; rw [hL_, hM_]; clear hL_ hM_ L Ms
      rw [laws_eqInt64S_l0] at H
      refine at_seq ?_
      refine at_seq ?_
      refine at_reg [] [0, 1, 5, 14] (L2 := [(0, .slice A129 p128.length c130), (1, .slice A133 p132.length c134), (5, .int .i64 x137), (14, .bool (decide (x137 < (p128.length : Int))))]) (obs := []) (by kernel_rfl) ?_ ?_
      · intro w hs; exact trivial
      refine at_thn ?_
      by_cases h141 : x137 < (p128.length : Int)
      · rw [if_pos h141] at H
        refine at_cond_t rfl (decide_eq_true h141) ?_
        refine at_skip ?_
        refine at_thn ?_
        refine at_seq ?_
        refine at_block ?_
        refine at_seq ?_
        obtain ⟨h142, H⟩ := ite_some H
        obtain ⟨h143, H⟩ := ite_some H
        refine at_regd hmo [(3, .int .i64 (rdA 0 p128 x137)), (7, .int .i64 (rdA 0 p132 x137))] [0, 1, 5, 25] (by kernel_rfl) (L2 := [(0, .slice A129 p128.length c130), (1, .slice A133 p132.length c134), (5, .int .i64 x137), (25, .bool ((rdA 0 p128 x137) != (rdA 0 p132 x137)))]) (obs := [fun _ => A129.isSome = true ∧ 0 ≤ x137 ∧ x137 < ((p128.length : Nat) : Int), fun w => w.cell? ((A129.getD ad0).add (x137.toNat * 1)) = some (.int .i64 (rdA 0 p128 x137)), fun _ => A133.isSome = true ∧ 0 ≤ x137 ∧ x137 < ((p132.length : Nat) : Int), fun w => w.cell? ((A133.getD ad0).add (x137.toNat * 1)) = some (.int .i64 (rdA 0 p132 x137))]) (by kernel_rfl) ?_ ?_
        · intro w hs; exact ⟨⟨hr131.ne x137 h142 h141, h142, h141⟩, hr131.one 0 x137 h142 h141 hs, ⟨hr135.ne x137 h142 h143, h142, h143⟩, hr135.one 0 x137 h142 h143 hs⟩
        refine at_thn ?_
        by_cases h144 : (rdA 0 p128 x137) = (rdA 0 p132 x137)
        · rw [if_pos h144] at H
          refine at_cond_f rfl (bne_eq_false_iff_eq.2 h144) ?_
          refine at_skip ?_
          refine at_in_norm ?_
          refine at_thn ?_
          refine at_reg [] [0, 1, 5] (L2 := [(0, .slice A129 p128.length c130), (1, .slice A133 p132.length c134), (5, .int .i64 (IntKind.i64.wrap (x137 + 1)))]) (obs := []) (by kernel_rfl) ?_ ?_
          · intro w hs; exact trivial
          refine at_thn ?_
          refine at_keep [0, 1, 5] (L2 := [(0, .slice A129 p128.length c130), (1, .slice A133 p132.length c134), (5, .int .i64 (IntKind.i64.wrap (x137 + 1)))]) rfl ?_
          exact ih139 _ (by omega) _ _ _ ⟨IntKind.i64.wrap (x137 + 1), rfl, rfl, H, hle, by omega, hr131, hr135⟩
        · rw [if_neg h144] at H
          refine at_cond_t rfl (bne_iff_ne.2 h144) ?_
          refine at_seq ?_
          refine at_reg [] [4] (L2 := [(4, .bool false)]) (obs := []) (by kernel_rfl) ?_ ?_
          · intro w hs; exact trivial
          refine at_thn ?_
          refine at_ret ?_
          refine at_in_ret ?_
          refine at_then_ret ?_
          refine at_then_ret ?_
          refine at_in_ret ?_
          refine at_then_ret ?_
          obtain rfl := Option.some.inj H
          refine at_done (vs := [.bool false]) (obs := []) (.inl rfl) [.tmp 4] [] rfl (by kernel_rfl) (fun w hs => trivial) (fun w hs => ⟨_, _, [], rfl, ⟨rfl, rfl⟩, hle, hs⟩)
      · rw [if_neg h141] at H
        refine at_cond_f rfl (decide_eq_false h141) ?_
        refine at_exit ?_
        refine at_then_exit ?_
        refine at_then_exit ?_
        refine at_in_hit ?_
        refine at_thn ?_
        refine at_seq ?_
        refine at_reg [] [4] (L2 := [(4, .bool true)]) (obs := []) (by kernel_rfl) ?_ ?_
        · intro w hs; exact trivial
        refine at_thn ?_
        refine at_ret ?_
        obtain rfl := Option.some.inj H
        refine at_done (vs := [.bool true]) (obs := []) (.inl rfl) [.tmp 4] [] rfl (by kernel_rfl) (fun w hs => trivial) (fun w hs => ⟨_, _, [], rfl, ⟨rfl, rfl⟩, hle, hs⟩)
  · rw [if_neg h136] at H
    refine at_cond_t rfl (bne_iff_ne.2 h136) ?_
    refine at_seq ?_
    refine at_reg [] [4] (L2 := [(4, .bool false)]) (obs := []) (by kernel_rfl) ?_ ?_
    · intro w hs; exact trivial
    refine at_thn ?_
    refine at_ret ?_
    refine at_then_ret ?_
    obtain rfl := Option.some.inj H
    refine at_done (vs := [.bool false]) (obs := []) (.inl rfl) [.tmp 4] [] rfl (by kernel_rfl) (fun w hs => trivial) (fun w hs => ⟨_, _, [], rfl, ⟨rfl, rfl⟩, hle, hs⟩)

/-! ### loop.example/g00146/laws.eqInt64SS: function 36 -/
def laws_eqInt64SS_l0 : Nat → Int → (List (List Int)) → (List (List Int)) → Option Bool
  | 0, _, _, _ => none
  | k + 1, x113, p104, p108 => if x113 < (p104.length : Int) then (if 0 ≤ x113 then (if x113 < (p108.length : Int) then ((laws_eqInt64S k (rdA [] p104 x113) (rdA [] p108 x113)).bind fun b8 => (if b8 = true then (laws_eqInt64SS_l0 k (IntKind.i64.wrap (x113 + 1)) p104 p108) else (some false))) else none) else none) else (some true)
def laws_eqInt64SS (k : Nat) (p104 : List (List Int)) (p108 : List (List Int)) : Option Bool := if (p104.length : Int) = (p108.length : Int) then (laws_eqInt64SS_l0 k 0 p104 p108) else (some false)
set_option maxHeartbeats 4000000 in
set_option maxRecDepth 100000 in
theorem laws_eqInt64SS.calls {k : Nat} {p104 : List (List Int)} {p108 : List (List Int)} {r : Bool} {I0 : Imm} {A105 : Option Addr} {c106 : Nat} {A109 : Option Addr} {c110 : Nat} (H : laws_eqInt64SS k p104 p108 = some r) (hr107 : Rd (Kd.slice (Kd.int .i64)) I0 A105 c106 p104) (hr111 : Rd (Kd.slice (Kd.int .i64)) I0 A109 c110 p108) :
    Meets Try.prog 36 ([.slice A105 p104.length c106, .slice A109 p108.length c110] : List Value).toArray I0 [] (fun v J M => v = .bool r ∧ M = []) := by
  have hle := ImmLe.refl I0
  unfold laws_eqInt64SS at H
  refine fn_intro (fn := Try.f36) 27 Try.func36 rfl rfl rfl (fun E Fs => ?_)
  refine at_seq ?_
  refine at_reg [] [0, 1] (L2 := [(0, .slice A105 p104.length c106), (1, .slice A109 p108.length c110)]) (obs := []) (by kernel_rfl) ?_ ?_
  · intro w hs; exact trivial
  refine at_thn ?_
  refine at_seq ?_
  refine at_seq ?_
  refine at_reg [] [0, 1, 10] (L2 := [(0, .slice A105 p104.length c106), (1, .slice A109 p108.length c110), (10, .bool ((p104.length : Int) != (p108.length : Int)))]) (obs := []) (by kernel_rfl) ?_ ?_
  · intro w hs; exact trivial
  refine at_thn ?_
  by_cases h112 : (p104.length : Int) = (p108.length : Int)
  · rw [if_pos h112] at H
    refine at_cond_f rfl (bne_eq_false_iff_eq.2 h112) ?_
    refine at_skip ?_
    refine at_thn ?_
    refine at_seq ?_
    refine at_seq ?_
    refine at_reg [] [0, 1, 5] (L2 := [(0, .slice A105 p104.length c106), (1, .slice A109 p108.length c110), (5, .int .i64 0)]) (obs := []) (by kernel_rfl) ?_ ?_
    · intro w hs; exact trivial
    refine at_thn ?_
    refine at_block ?_
    refine at_keep [0, 1, 5] (L2 := [(0, .slice A105 p104.length c106), (1, .slice A109 p108.length c110), (5, .int .i64 0)]) rfl ?_
    refine at_loop (fun k114 L I Ms => ∃ (x113 : Int), L = [(0, .slice A105 p104.length c106), (1, .slice A109 p108.length c110), (5, .int .i64 x113)] ∧ Ms = ([] ++ Fs) ∧ laws_eqInt64SS_l0 k114 x113 p104 p108 = some r ∧ ImmLe I0 I ∧ k114 ≤ k ∧ Rd (Kd.slice (Kd.int .i64)) I A105 c106 p104 ∧ Rd (Kd.slice (Kd.int .i64)) I A109 c110 p108) ?_ ?_ k ⟨0, rfl, rfl, H, hle, Nat.le_refl _, hr107, hr111⟩
    · rintro L I Ms ⟨_, rfl, rfl, H, _⟩; exact no_none H
    · clear H hle hr107 hr111
      intro k114 ih115 L I Ms h_; obtain ⟨x113, hL_, hM_, H, hle, hk116, hr107, hr111⟩ := h_; rw [hL_, hM_]; clear hL_ hM_ L Ms
      rw [laws_eqInt64SS_l0] at H
      refine at_seq ?_
      refine at_seq ?_
      refine at_reg [] [0, 1, 5, 14] (L2 := [(0, .slice A105 p104.length c106), (1, .slice A109 p108.length c110), (5, .int .i64 x113), (14, .bool (decide (x113 < (p104.length : Int))))]) (obs := []) (by kernel_rfl) ?_ ?_
      · intro w hs; exact trivial
      refine at_thn ?_
      by_cases h117 : x113 < (p104.length : Int)
      · rw [if_pos h117] at H
        refine at_cond_t rfl (decide_eq_true h117) ?_
        refine at_skip ?_
        refine at_thn ?_
        refine at_seq ?_
        refine at_block ?_
        refine at_seq ?_
        obtain ⟨h118, H⟩ := ite_some H
        obtain ⟨h125, H⟩ := ite_some H
        obtain ⟨cs123, hz124, hc119⟩ := hr107.elem [] x113 h118 h117
        obtain ⟨A120, c121, rfl, hr122⟩ := hz124
        obtain ⟨cs130, hz131, hc126⟩ := hr111.elem [] x113 h118 h125
        obtain ⟨A127, c128, rfl, hr129⟩ := hz131
        refine at_x hmo (fun w => w.cell? ((A105.getD ad0).add (x113.toNat * 1)) = some (.slice A120 (rdA [] p104 x113).length c121) ∧ w.cell? ((A109.getD ad0).add (x113.toNat * 1)) = some (.slice A127 (rdA [] p108 x113).length c128)) [] ?_
        refine at_xseg [0, 1, 2, 3, 4, 5, 6, 7] 2 (#[true, true, true, true, true, true, true, true, false, false]) rfl (by kernel_rfl) [(3, .slice A120 (rdA [] p104 x113).length c121), (7, .slice A127 (rdA [] p108 x113).length c128)] [0, 1, 5, 20, 24] (L2 := [(0, .slice A105 p104.length c106), (1, .slice A109 p108.length c110), (5, .int .i64 x113), (20, .slice A120 (rdA [] p104 x113).length c121), (24, .slice A127 (rdA [] p108 x113).length c128)]) (obs := [fun _ => A105.isSome = true ∧ 0 ≤ x113 ∧ x113 < ((p104.length : Nat) : Int), fun w => w.cell? ((A105.getD ad0).add (x113.toNat * 1)) = some (.slice A120 (rdA [] p104 x113).length c121), fun _ => A109.isSome = true ∧ 0 ≤ x113 ∧ x113 < ((p108.length : Nat) : Int), fun w => w.cell? ((A109.getD ad0).add (x113.toNat * 1)) = some (.slice A127 (rdA [] p108 x113).length c128)]) (by kernel_rfl) (by kernel_rfl) (by kernel_rfl) (.inr fun w hs => ⟨cell0 (hc119 0 _ rfl hs), cell0 (hc126 0 _ rfl hs)⟩) (fun w hS => ⟨⟨hr107.ne x113 h118 h117, h118, h117⟩, hS.1, ⟨hr111.ne x113 h118 h125, h118, h125⟩, hS.2⟩) (fun w hs => ⟨⟨hr107.ne x113 h118 h117, h118, h117⟩, cell0 (hc119 0 _ rfl hs), ⟨hr111.ne x113 h118 h125, h118, h125⟩, cell0 (hc126 0 _ rfl hs)⟩) ?_
        refine at_x1 1 8 (#[true, true, true, true, true, true, true, true, true, false]) rfl (by kernel_rfl) (by kernel_rfl) rfl rfl ?_
        obtain ⟨b8, H132, H⟩ := bind_some H
        have hm_ := laws_eqInt64S.calls (I0 := I) H132 hr122 hr129
        refine eff_call rfl rfl ok12 rfl rfl (show Meets Try.prog 12 ([.slice A120 (rdA [] p104 x113).length c121, .slice A127 (rdA [] p108 x113).length c128] : List Value).toArray _ [] _ from hm_) (Mr := (Fs)) (List.Perm.refl _) (fun v133 J134 M135 hq136 hJ137 => ?_)
        replace hle := hle.trans hJ137
        replace hr107 := hr107.mono hJ137
        replace hr111 := hr111.mono hJ137
        replace hr122 := hr122.mono hJ137
        replace hr129 := hr129.mono hJ137
        replace hc119 := hc_mono hc119 hJ137
        replace hc126 := hc_mono hc126 hJ137
        obtain ⟨rfl, rfl⟩ := hq136
        refine at_xS (fun w hs => ⟨cell0 (hc119 0 _ rfl hs), cell0 (hc126 0 _ rfl hs)⟩) ?_
        refine at_xseg [9] 0 (#[true, true, true, true, true, true, true, true, true, true]) rfl (by kernel_rfl) [] [0, 1, 5, 26] (L2 := [(0, .slice A105 p104.length c106), (1, .slice A109 p108.length c110), (5, .int .i64 x113), (26, .bool (!b8))]) (obs := []) (by kernel_rfl) (by kernel_rfl) (by kernel_rfl) (.inr fun w hs => ⟨cell0 (hc119 0 _ rfl hs), cell0 (hc126 0 _ rfl hs)⟩) (fun w hS => trivial) (fun w hs => trivial) ?_
        refine at_xend (by kernel_rfl) ?_
        refine at_thn ?_
        by_cases h138 : b8 = true
        · rw [if_pos h138] at H
          refine at_cond_f rfl (not_ff (h138)) ?_
          refine at_skip ?_
          refine at_in_norm ?_
          refine at_thn ?_
          refine at_reg [] [0, 1, 5] (L2 := [(0, .slice A105 p104.length c106), (1, .slice A109 p108.length c110), (5, .int .i64 (IntKind.i64.wrap (x113 + 1)))]) (obs := []) (by kernel_rfl) ?_ ?_
          · intro w hs; exact trivial
          refine at_thn ?_
          refine at_keep [0, 1, 5] (L2 := [(0, .slice A105 p104.length c106), (1, .slice A109 p108.length c110), (5, .int .i64 (IntKind.i64.wrap (x113 + 1)))]) rfl ?_
          exact ih115 _ (by omega) _ _ _ ⟨IntKind.i64.wrap (x113 + 1), rfl, rfl, H, hle, by omega, hr107, hr111⟩
        · rw [if_neg h138] at H
          refine at_cond_t rfl (not_tt (ff_of h138)) ?_
          refine at_seq ?_
          refine at_reg [] [4] (L2 := [(4, .bool false)]) (obs := []) (by kernel_rfl) ?_ ?_
          · intro w hs; exact trivial
          refine at_thn ?_
          refine at_ret ?_
          refine at_in_ret ?_
          refine at_then_ret ?_
          refine at_then_ret ?_
          refine at_in_ret ?_
          refine at_then_ret ?_
          obtain rfl := Option.some.inj H
          refine at_done (vs := [.bool false]) (obs := []) (.inl rfl) [.tmp 4] [] rfl (by kernel_rfl) (fun w hs => trivial) (fun w hs => ⟨_, _, [], rfl, ⟨rfl, rfl⟩, hle, hs⟩)
      · rw [if_neg h117] at H
        refine at_cond_f rfl (decide_eq_false h117) ?_
        refine at_exit ?_
        refine at_then_exit ?_
        refine at_then_exit ?_
        refine at_in_hit ?_
        refine at_thn ?_
        refine at_seq ?_
        refine at_reg [] [4] (L2 := [(4, .bool true)]) (obs := []) (by kernel_rfl) ?_ ?_
        · intro w hs; exact trivial
        refine at_thn ?_
        refine at_ret ?_
        obtain rfl := Option.some.inj H
        refine at_done (vs := [.bool true]) (obs := []) (.inl rfl) [.tmp 4] [] rfl (by kernel_rfl) (fun w hs => trivial) (fun w hs => ⟨_, _, [], rfl, ⟨rfl, rfl⟩, hle, hs⟩)
  · rw [if_neg h112] at H
    refine at_cond_t rfl (bne_iff_ne.2 h112) ?_
    refine at_seq ?_
    refine at_reg [] [4] (L2 := [(4, .bool false)]) (obs := []) (by kernel_rfl) ?_ ?_
    · intro w hs; exact trivial
    refine at_thn ?_
    refine at_ret ?_
    refine at_then_ret ?_
    obtain rfl := Option.some.inj H
    refine at_done (vs := [.bool false]) (obs := []) (.inl rfl) [.tmp 4] [] rfl (by kernel_rfl) (fun w hs => trivial) (fun w hs => ⟨_, _, [], rfl, ⟨rfl, rfl⟩, hle, hs⟩)
end Go.Proofs.Ytabdhegmepaeiaa
