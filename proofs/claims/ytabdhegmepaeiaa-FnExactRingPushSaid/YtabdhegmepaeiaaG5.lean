import Derived.Test.YtabdhegmepaeiaaG4
namespace Go.Proofs.Ytabdhegmepaeiaa
open Go Eng
set_option linter.unusedVariables false
set_option linter.unusedSimpArgs false
/-! ### loop.example/g00146/impl.ownLists: function 52 -/
def impl_ownLists_l0 : Nat → (List (List Int)) → Int → (List (List Int)) → Option (List (List Int))
  | 0, _, _, _ => none
  | k + 1, x108, x113, p102 => if x113 < (p102.length : Int) then (if 0 ≤ x113 then ((slices_Clone_int64_int64 (rdA [] p102 x113)).bind fun b8 => (if x108.length + ([b8] : List (List Int)).length ≤ 5864062014805 then (impl_ownLists_l0 k (x108 ++ ([b8] : List (List Int))) (IntKind.i64.wrap (x113 + 1)) p102) else none)) else none) else (some x108)
def impl_ownLists (k : Nat) (p102 : List (List Int)) : Option (List (List Int)) := impl_ownLists_l0 k ([] : List (List Int)) 0 p102
set_option maxHeartbeats 4000000 in
set_option maxRecDepth 100000 in
theorem impl_ownLists.calls {k : Nat} {p102 : List (List Int)} {r : (List (List Int))} {I0 : Imm} {A103 : Option Addr} {c104 : Nat} (H : impl_ownLists k p102 = some r) (hr105 : Rd (Kd.slice (Kd.int .i64)) I0 A103 c104 p102) :
    Meets Try.prog 52 ([.slice A103 p102.length c104] : List Value).toArray I0 [] (fun v J M => ∃ (A_1 : Option Addr) (c_2 : Nat) (s_3 : Seg), v = .slice A_1 r.length c_2 ∧ M = [s_3] ∧ DOwn (DK.sl (Kd.int .i64) 2) 25 J A_1 c_2 r s_3) := by
  have hle := ImmLe.refl I0
  unfold impl_ownLists at H
  refine fn_intro (fn := Try.f52) 20 Try.func52 rfl rfl rfl (fun E Fs => ?_)
  refine at_seq ?_
  refine at_reg [] [0] (L2 := [(0, .slice A103 p102.length c104)]) (obs := []) (by kernel_rfl) ?_ ?_
  · intro w hs; exact trivial
  refine at_thn ?_
  refine at_seq ?_
  refine at_ops [0, 1] rfl ?_
  refine at_eff rfl rfl ?_
  refine eff_buildSlice (e := 25) (cells := #[]) ([] : List (List Int)).length rfl rfl rfl (by kernel_rfl) (fun g106 => ?_)
  have hd107 := own_lit (K := Kd.raw 1) (e := 25) (I := I0) (xs := ([] : List (List Value))) (css := ([] : List (List Value))) (cells := #[]) (b := g106) trivial rfl
  replace hd107 : DOwn (DK.sl (Kd.int .i64) 2) 25 I0 (some ⟨g106, 0, none⟩ : Option Addr) (([] : List (List Int)).length) ([] : List (List Int)) [(g106, .cells #[] 25 (0, 0))] := DOwn.lit (hs := []) (sis := []) hd107 trivial (by simp)
  refine at_seg [1] [] rfl [] [0, 3] (L2 := [(0, .slice A103 p102.length c104), (3, .slice (some ⟨g106, 0, none⟩ : Option Addr) ([] : List (List Int)).length (([] : List (List Int)).length))]) (obs := []) (by kernel_rfl) ?_ ?_
  · intro w hs; exact trivial
  refine at_end ?_
  refine at_thn ?_
  refine at_seq ?_
  refine at_seq ?_
  refine at_reg [] [3, 7, 8, 9] (L2 := [(3, .slice (some ⟨g106, 0, none⟩ : Option Addr) ([] : List (List Int)).length (([] : List (List Int)).length)), (7, .slice A103 p102.length c104), (8, .int .i64 (p102.length : Int)), (9, .int .i64 0)]) (obs := []) (by kernel_rfl) ?_ ?_
  · intro w hs; exact trivial
  refine at_thn ?_
  refine at_block ?_
  refine at_keep [3, 7, 8, 9] (L2 := [(3, .slice (some ⟨g106, 0, none⟩ : Option Addr) ([] : List (List Int)).length (([] : List (List Int)).length)), (7, .slice A103 p102.length c104), (8, .int .i64 (p102.length : Int)), (9, .int .i64 0)]) rfl ?_
  refine at_loop (fun k114 L I Ms => ∃ (x108 : List (List Int)) (A109 : Option Addr) (c110 : Nat) (s111 : Seg) (x113 : Int), L = [(3, .slice A109 x108.length c110), (7, .slice A103 p102.length c104), (8, .int .i64 (p102.length : Int)), (9, .int .i64 x113)] ∧ Ms = (s111 :: Fs) ∧ impl_ownLists_l0 k114 x108 x113 p102 = some r ∧ ImmLe I0 I ∧ k114 ≤ k ∧ DOwn (DK.sl (Kd.int .i64) 2) 25 I A109 c110 x108 s111 ∧ Rd (Kd.slice (Kd.int .i64)) I A103 c104 p102) ?_ ?_ k ⟨([] : List (List Int)), (some ⟨g106, 0, none⟩ : Option Addr), ([] : List (List Int)).length, [(g106, .cells #[] 25 (0, 0))], 0, rfl, rfl, H, hle, Nat.le_refl _, hd107, hr105⟩
  · rintro L I Ms ⟨_, _, _, _, _, rfl, rfl, H, _⟩; exact no_none H
  · clear H hle hd107 hr105
    intro k114 ih115 L I Ms h_; obtain ⟨x108, A109, c110, s111, x113, hL_, hM_, H, hle, hk116, ho112, hr105⟩ := h_; rw [hL_, hM_]; clear hL_ hM_ L Ms
    rw [impl_ownLists_l0] at H
    refine at_seq ?_
    refine at_reg [] [3, 7, 8, 9, 10] (L2 := [(3, .slice A109 x108.length c110), (7, .slice A103 p102.length c104), (8, .int .i64 (p102.length : Int)), (9, .int .i64 x113), (10, .bool (decide (x113 < (p102.length : Int))))]) (obs := []) (by kernel_rfl) ?_ ?_
    · intro w hs; exact trivial
    refine at_thn ?_
    refine at_seq ?_
    by_cases h117 : x113 < (p102.length : Int)
    · rw [if_pos h117] at H
      refine at_cond_t rfl (decide_eq_true h117) ?_
      refine at_skip ?_
      refine at_thn ?_
      refine at_seq ?_
      refine at_block ?_
      refine at_seq ?_
      obtain ⟨h118, H⟩ := ite_some H
      obtain ⟨cs123, hz124, hc119⟩ := hr105.elem [] x113 h118 h117
      obtain ⟨A120, c121, rfl, hr122⟩ := hz124
      refine at_reg [(1, .slice A120 (rdA [] p102 x113).length c121)] [3, 5, 7, 8, 9] (L2 := [(3, .slice A109 x108.length c110), (5, .slice A120 (rdA [] p102 x113).length c121), (7, .slice A103 p102.length c104), (8, .int .i64 (p102.length : Int)), (9, .int .i64 x113)]) (obs := [fun _ => A103.isSome = true ∧ 0 ≤ x113 ∧ x113 < ((p102.length : Nat) : Int), fun w => w.cell? ((A103.getD ad0).add (x113.toNat * 1)) = some (.slice A120 (rdA [] p102 x113).length c121)]) (by kernel_rfl) ?_ ?_
      · intro w hs; exact ⟨⟨hr105.ne x113 h118 h117, h118, h117⟩, cell0 (hc119 0 _ rfl hs)⟩
      refine at_thn ?_
      refine at_ops [0, 1, 2, 3, 4, 5] rfl ?_
      refine at_seg [0, 1] [2, 3, 4, 5] rfl [] [3, 7, 8, 9, 13, 14] (L2 := [(3, .slice A109 x108.length c110), (7, .slice A103 p102.length c104), (8, .int .i64 (p102.length : Int)), (9, .int .i64 x113), (13, .slice A109 x108.length c110), (14, .slice A120 (rdA [] p102 x113).length c121)]) (obs := []) (by kernel_rfl) ?_ ?_
      · intro w hs; exact trivial
      refine at_eff rfl rfl ?_
      obtain ⟨b8, H125, H⟩ := bind_some H
      have hm_ := slices_Clone_int64_int64.calls (I0 := I) H125 hr122
      refine eff_call rfl rfl ok48 rfl rfl (show Meets Try.prog 48 ([.slice A120 (rdA [] p102 x113).length c121] : List Value).toArray _ [] _ from hm_) (Mr := (s111 :: Fs)) (List.Perm.refl _) (fun v126 J127 M128 hq129 hJ130 => ?_)
      replace hle := hle.trans hJ130
      replace ho112 := ho112.mono hJ130
      replace hr105 := hr105.mono hJ130
      replace hr122 := hr122.mono hJ130
      obtain ⟨A131, c132, s133, rfl, rfl, ho134⟩ := hq129
      refine at_eff rfl rfl ?_
      refine eff_buildSlice (e := 25) (cells := #[.slice A131 b8.length c132]) ([b8] : List (List Int)).length rfl rfl rfl (by kernel_rfl) (fun g135 => ?_)
      have hd136 := own_lit (K := Kd.raw 1) (e := 25) (I := J127) (xs := ([[.slice A131 b8.length c132]] : List (List Value))) (css := ([[.slice A131 b8.length c132]] : List (List Value))) (cells := #[.slice A131 b8.length c132]) (b := g135) ⟨⟨rfl, rfl, rfl⟩, trivial⟩ rfl
      refine at_merge 1 0 rfl rfl rfl ?_
      replace hd136 : DOwn (DK.sl (Kd.int .i64) 2) 25 J127 (some ⟨g135, 0, none⟩ : Option Addr) (([b8] : List (List Int)).length) ([b8] : List (List Int)) (s133 ++ [(g135, .cells #[.slice A131 b8.length c132] 25 (0, 0))]) := DOwn.lit (hs := [[.slice A131 b8.length c132]]) (sis := [s133]) hd136 ⟨⟨_, _, rfl, ho134⟩, trivial⟩ (perm_lit1 _ _)
      refine at_eff rfl rfl ?_
      obtain ⟨h137, H⟩ := ite_some H
      obtain ⟨i_, hi_, hz_, hs_, hb_⟩ := info25
      refine eff_appendD (D := (DK.sl (Kd.int .i64) 2)) (xs := x108) (ys := ([b8] : List (List Int))) 0 0 rfl rfl rfl rfl rfl und22 und22 hi_ hz_ hs_ rfl rfl rfl ho112 hd136 rfl rfl (by rw [hb_]; omega) (by omega) (fun A138 c139 s140 hd141 => ?_)
      refine at_seg [5] [] rfl [] [3, 7, 8, 9] (L2 := [(3, .slice A138 (x108 ++ ([b8] : List (List Int))).length c139), (7, .slice A103 p102.length c104), (8, .int .i64 (p102.length : Int)), (9, .int .i64 x113)]) (obs := []) (by kernel_rfl) ?_ ?_
      · intro w hs; exact trivial
      refine at_end ?_
      refine at_in_norm ?_
      refine at_thn ?_
      refine at_reg [] [3, 7, 8, 9] (L2 := [(3, .slice A138 (x108 ++ ([b8] : List (List Int))).length c139), (7, .slice A103 p102.length c104), (8, .int .i64 (p102.length : Int)), (9, .int .i64 (IntKind.i64.wrap (x113 + 1)))]) (obs := []) (by kernel_rfl) ?_ ?_
      · intro w hs; exact trivial
      refine at_thn ?_
      refine at_keep [3, 7, 8, 9] (L2 := [(3, .slice A138 (x108 ++ ([b8] : List (List Int))).length c139), (7, .slice A103 p102.length c104), (8, .int .i64 (p102.length : Int)), (9, .int .i64 (IntKind.i64.wrap (x113 + 1)))]) rfl ?_
      exact ih115 _ (by omega) _ _ _ ⟨(x108 ++ ([b8] : List (List Int))), A138, c139, s140, IntKind.i64.wrap (x113 + 1), rfl, rfl, H, hle, by omega, hd141, hr105⟩
    · rw [if_neg h117] at H
      refine at_cond_f rfl (decide_eq_false h117) ?_
      refine at_exit ?_
      refine at_then_exit ?_
      refine at_then_exit ?_
      refine at_in_hit ?_
      refine at_thn ?_
      refine at_seq ?_
      refine at_reg [] [2] (L2 := [(2, .slice A109 x108.length c110)]) (obs := []) (by kernel_rfl) ?_ ?_
      · intro w hs; exact trivial
      refine at_thn ?_
      refine at_ret ?_
      obtain rfl := Option.some.inj H
      refine at_done (vs := [.slice A109 x108.length c110]) (obs := []) (.inl rfl) [.tmp 2] [] rfl (by kernel_rfl) (fun w hs => trivial) (fun w hs => ⟨_, _, [s111], rfl, ⟨A109, c110, s111, rfl, rfl, ho112⟩, hle, hs⟩)

/-! ### loop.example/g00146/impl.ownRing: function 34 -/
def impl_ownRing (k : Nat) (p96 : T_impl_Ring) : Option T_impl_Ring := (impl_ownLists k p96.Items).bind fun b8 => (some (⟨b8, p96.At⟩ : T_impl_Ring))
set_option maxHeartbeats 4000000 in
set_option maxRecDepth 100000 in
theorem impl_ownRing.calls {k : Nat} {p96 : T_impl_Ring} {r : T_impl_Ring} {I0 : Imm} {A97 : Option Addr} {c98 : Nat} (H : impl_ownRing k p96 = some r) (hr99 : Rd (Kd.slice (Kd.int .i64)) I0 A97 c98 p96.Items) :
    Meets Try.prog 34 ([.agg #[.slice A97 p96.Items.length c98, .int .i64 p96.At]] : List Value).toArray I0 [] (fun v J M => ∃ (A_1 : Option Addr) (c_2 : Nat) (s_3 : Seg), v = .agg #[.slice A_1 r.Items.length c_2, .int .i64 r.At] ∧ M = [s_3] ∧ DOwn (DK.sl (Kd.int .i64) 2) 25 J A_1 c_2 r.Items s_3) := by
  have hle := ImmLe.refl I0
  unfold impl_ownRing at H
  refine fn_intro (fn := Try.f34) 9 Try.func34 rfl rfl rfl (fun E Fs => ?_)
  refine at_seq ?_
  refine at_ops [0, 1] rfl ?_
  refine at_eff rfl rfl ?_
  refine eff_box rfl rfl rfl #[.slice A97 p96.Items.length c98, .int .i64 p96.At] rfl (fun g100 => ?_)
  refine at_eff rfl rfl ?_
  obtain ⟨i_, hi_, hz_, _, _⟩ := info27
  refine eff_alloc rfl rfl hi_ hz_ #[.slice none ([] : List (List Int)).length 0, .int .i64 0] rfl (fun g101 => ?_)
  refine at_end ?_
  refine at_thn ?_
  refine at_seq ?_
  refine at_x hmo (fun w => w.cell? ⟨g100, 0, none⟩ = some (.slice A97 p96.Items.length c98) ∧ w.cell? ⟨g100, 1, none⟩ = some (.int .i64 p96.At)) [6] ?_
  refine at_xseg [0, 1, 3, 4] 3 (#[true, true, false, true, true, false, false]) rfl (by kernel_rfl) [(1, .slice A97 p96.Items.length c98), (4, .int .i64 p96.At)] [2, 4, 7] (L2 := [(2, .pointer (some ⟨g101, 0, none⟩)), (4, .slice A97 p96.Items.length c98), (7, .int .i64 p96.At)]) (obs := [fun w => w.cell? ⟨g100, 0, none⟩ = some (.slice A97 p96.Items.length c98), fun w => w.cell? ⟨g100, 1, none⟩ = some (.int .i64 p96.At)]) (by kernel_rfl) (by kernel_rfl) (by kernel_rfl) (.inr fun w hs => ⟨hs.var (k := 1) rfl 0 rfl, hs.var (k := 1) rfl 1 rfl⟩) (fun w hS => ⟨hS.1, hS.2⟩) (fun w hs => ⟨hs.var (k := 1) rfl 0 rfl, hs.var (k := 1) rfl 1 rfl⟩) ?_
  refine at_x1 2 2 (#[true, true, true, true, true, false, false]) rfl (by kernel_rfl) (by kernel_rfl) rfl rfl ?_
  obtain ⟨b8, H102, H⟩ := bind_some H
  have hm_ := impl_ownLists.calls (I0 := I0) H102 hr99
  refine eff_call rfl rfl ok52 rfl rfl (show Meets Try.prog 52 ([.slice A97 p96.Items.length c98] : List Value).toArray _ [] _ from hm_) (Mr := ([(g101, .cells #[.slice none ([] : List (List Int)).length 0, .int .i64 0] 27 (0, 0))] :: [(g100, .cells #[.slice A97 p96.Items.length c98, .int .i64 p96.At] 27 (0, 0))] :: Fs)) (List.Perm.refl _) (fun v103 J104 M105 hq106 hJ107 => ?_)
  replace hle := hle.trans hJ107
  replace hr99 := hr99.mono hJ107
  obtain ⟨A108, c109, s110, rfl, rfl, ho111⟩ := hq106
  refine at_xS (fun w hs => ⟨hs.var (k := 2) rfl 0 rfl, hs.var (k := 2) rfl 1 rfl⟩) ?_
  refine at_xseg [5] 1 (#[true, true, true, true, true, true, false]) rfl (by kernel_rfl) [] [2, 8] (L2 := [(2, .pointer (some ⟨g101, 0, none⟩)), (8, .agg #[.slice A108 b8.length c109, .int .i64 p96.At])]) (obs := []) (by kernel_rfl) (by kernel_rfl) (by kernel_rfl) (.inr fun w hs => ⟨hs.var (k := 2) rfl 0 rfl, hs.var (k := 2) rfl 1 rfl⟩) (fun w hS => trivial) (fun w hs => trivial) ?_
  refine at_x1 0 6 (#[true, true, true, true, true, true, true]) rfl (by kernel_rfl) (by kernel_rfl) rfl rfl ?_
  refine eff_store 1 rfl rfl rfl rfl rfl rfl (.inl (Nat.le_refl _)) rfl (Nat.le_of_ble_eq_true (by kernel_rfl)) rfl ?_
  refine at_xX (by kernel_rfl) ?_
  refine at_xend (by kernel_rfl) ?_
  refine at_thn ?_
  refine at_ret ?_
  obtain rfl := Option.some.inj H
  refine at_drop (k := 2) rfl rfl ?_
  refine at_done (vs := [.agg #[.slice A108 b8.length c109, .int .i64 p96.At]]) (obs := [fun w => CellsAt w ⟨g101, 0, none⟩ [.slice A108 b8.length c109, .int .i64 p96.At] 0]) (.inl rfl) [.cell 2 27] [(2, .agg #[.slice A108 b8.length c109, .int .i64 p96.At])] rfl (by kernel_rfl) (fun w hs => cellsV (k := 1) hs rfl _ 0 (Nat.le_of_ble_eq_true (by kernel_rfl)) rfl) (fun w hs => ⟨_, _, [s110], rfl, ⟨A108, c109, s110, rfl, rfl, ho111⟩, hle, (hs.tail (perm_at (k := 1) rfl))⟩)

/-! ### slices.Insert[[][]int64,[]int64]: function 53 -/
def slices_Insert_int64_int64 (s : List (List Value)) (i : Int) (v : List (List Value)) : Option (List (List Value)) := if s.length + v.length ≤ 5864062014805 then (if 0 ≤ i then (if i ≤ (s.length : Int) then some (s.take i.toNat ++ v ++ s.drop i.toNat) else none) else none) else none
set_option maxHeartbeats 4000000 in
set_option maxRecDepth 100000 in
theorem slices_Insert_int64_int64.calls {s : List (List Value)} {i : Int} {v r : List (List Value)} {I0 : Imm} {A A2 : Option Addr} {c c2 : Nat} {S1 S2 : Seg} (H : slices_Insert_int64_int64 s i v = some r) (ho : Own (Kd.raw 1) 25 I0 A c s S1) (ho2 : Own (Kd.raw 1) 25 I0 A2 c2 v S2) :
    Meets Try.prog 53 ([.slice A s.length c, .int .i64 i, .slice A2 v.length c2] : List Value).toArray I0 [S1, S2] (fun u J M => ∃ (A_1 : Option Addr) (c_2 : Nat) (s_3 : Seg), u = .slice A_1 r.length c_2 ∧ M = [s_3] ∧ Own (Kd.raw 1) 25 J A_1 c_2 r s_3) := by
  have hle := ImmLe.refl I0
  unfold slices_Insert_int64_int64 at H
  obtain ⟨hl, H⟩ := ite_some H
  obtain ⟨h0, H⟩ := ite_some H
  obtain ⟨h1, H⟩ := ite_some H
  obtain rfl := Option.some.inj H
  obtain ⟨p, rfl⟩ : ∃ p : Nat, i = p := ⟨i.toNat, by omega⟩
  simp only [Int.toNat_natCast] at *
  have hps : p ≤ s.length := by omega
  have hcp := ho.cap
  have hrl : (s.take p ++ v ++ s.drop p).length = s.length + v.length := by simp only [List.length_append, List.length_take, List.length_drop]; omega
  obtain ⟨i_, hi_, hz_, hs_, hb_⟩ := info25
  refine fn_intro (fn := Try.f53) 95 Try.func53 rfl rfl rfl (fun E Fs => ?_)
  refine at_seq ?_
  refine at_reg [] [0, 1, 2] (L2 := [(0, .slice A s.length c), (1, .int .i64 (p : Int)), (2, .slice A2 v.length c2)]) (obs := []) (by kernel_rfl) ?_ ?_
  · intro w hs; exact trivial
  refine at_thn ?_
  refine at_seq ?_
  refine at_reg [] [0, 1, 2] (L2 := [(0, .slice A s.length c), (1, .int .i64 (p : Int)), (2, .slice A2 v.length c2)]) (obs := [fun _ => 0 ≤ (p : Int) ∧ (p : Int) ≤ ((s.length : Nat) : Int) ∧ ((s.length : Nat) : Int) ≤ ((c : Nat) : Int)]) (by kernel_rfl) ?_ ?_
  · intro w hs; exact ⟨by omega, by omega, by omega⟩
  refine at_thn ?_
  refine at_seq ?_
  refine at_reg [] [0, 1, 2, 7] (L2 := [(0, .slice A s.length c), (1, .int .i64 (p : Int)), (2, .slice A2 v.length c2), (7, .int .i64 (v.length : Int))]) (obs := []) (by kernel_rfl) ?_ ?_
  · intro w hs; exact trivial
  refine at_thn ?_
  refine at_seq ?_
  refine at_seq ?_
  refine at_reg [] [0, 1, 2, 7, 16] (L2 := [(0, .slice A s.length c), (1, .int .i64 (p : Int)), (2, .slice A2 v.length c2), (7, .int .i64 (v.length : Int)), (16, .bool ((v.length : Int) == 0))]) (obs := []) (by kernel_rfl) ?_ ?_
  · intro w hs; exact trivial
  refine at_thn ?_
  by_cases hm0 : (v.length : Int) = 0
  · refine at_cond_t rfl (beq_iff_eq.2 hm0) ?_
    have hv : v = [] := List.eq_nil_of_length_eq_zero (by omega)
    have hr : s.take p ++ v ++ s.drop p = s := by rw [hv]; simp
    refine at_seq ?_
    refine at_reg [(1, .slice A (s.take p ++ v ++ s.drop p).length c)] [6] (L2 := [(6, .slice A (s.take p ++ v ++ s.drop p).length c)]) (obs := [fun _ => (.slice A s.length c : Value) = .slice A (s.take p ++ v ++ s.drop p).length c]) (by kernel_rfl) ?_ ?_
    · intro w hs; exact (by show (_ : Value) = _; rw [hr])
    refine at_thn ?_
    refine at_ret ?_
    refine at_then_ret ?_
    refine at_drop (k := 1) rfl rfl ?_
    rw [hr]
    refine at_done (vs := [.slice A s.length c]) (obs := []) (.inl rfl) [.tmp 6] [] rfl (by kernel_rfl) (fun w hs => trivial) (fun w hs => ⟨_, _, [S1], rfl, ⟨_, _, _, rfl, rfl, ho⟩, hle, hs⟩)
  refine at_cond_f rfl (beq_eq_false_iff_ne.2 hm0) ?_
  refine at_skip ?_
  refine at_thn ?_
  refine at_seq ?_
  refine at_reg [] [0, 1, 2, 7, 8] (L2 := [(0, .slice A s.length c), (1, .int .i64 (p : Int)), (2, .slice A2 v.length c2), (7, .int .i64 (v.length : Int)), (8, .int .i64 (s.length : Int))]) (obs := []) (by kernel_rfl) ?_ ?_
  · intro w hs; exact trivial
  refine at_thn ?_
  refine at_seq ?_
  refine at_seq ?_
  refine at_reg [] [0, 1, 2, 7, 8, 22] (L2 := [(0, .slice A s.length c), (1, .int .i64 (p : Int)), (2, .slice A2 v.length c2), (7, .int .i64 (v.length : Int)), (8, .int .i64 (s.length : Int)), (22, .bool ((p : Int) == (s.length : Int)))]) (obs := []) (by kernel_rfl) ?_ ?_
  · intro w hs; exact trivial
  refine at_thn ?_
  by_cases hpn : (p : Int) = (s.length : Int)
  · refine at_cond_t rfl (beq_iff_eq.2 hpn) ?_
    refine at_seq ?_
    refine at_ops [0, 1, 2, 3] rfl ?_
    refine at_seg [0, 1] [2, 3] rfl [] [23, 24] (L2 := [(23, .slice A s.length c), (24, .slice A2 v.length c2)]) (obs := []) (by kernel_rfl) ?_ ?_
    · intro w hs; exact trivial
    refine at_eff rfl rfl ?_
    have hr : s.take p ++ v ++ s.drop p = s ++ v := by rw [show p = s.length by omega]; simp
    refine eff_append (K := (Kd.raw 1)) (xs := s) (ys := v) 0 rfl rfl rfl rfl rfl und22 und22 hi_ hz_ hs_ rfl rfl rfl ho rfl (fun w hs => ho2.rowAt (k := 1) hs rfl) (by rw [hb_]; omega) (by omega) (fun A3 c3 s3 ho3 => ?_)
    refine at_seg [3] [] rfl [] [6] (L2 := [(6, .slice A3 (s ++ v).length c3)]) (obs := []) (by kernel_rfl) ?_ ?_
    · intro w hs; exact trivial
    refine at_end ?_
    refine at_thn ?_
    refine at_ret ?_
    refine at_then_ret ?_
    refine at_drop (k := 1) rfl rfl ?_
    rw [hr]
    refine at_done (vs := [.slice A3 (s ++ v).length c3]) (obs := []) (.inl rfl) [.tmp 6] [] rfl (by kernel_rfl) (fun w hs => trivial) (fun w hs => ⟨_, _, [s3], rfl, ⟨_, _, _, rfl, rfl, ho3⟩, hle, hs⟩)
  refine at_cond_f rfl (beq_eq_false_iff_ne.2 hpn) ?_
  refine at_skip ?_
  refine at_thn ?_
  rcases A with _ | a
  · exact absurd (congrArg List.length (ho.nilOf rfl)) (by simp only [List.length_nil]; omega)
  obtain ⟨b, rfl, hsp⟩ := ho.spare
  rcases A2 with _ | a2
  · exact absurd (congrArg List.length (ho2.nilOf rfl)) (by simp only [List.length_nil]; omega)
  refine at_seq ?_
  refine at_seq ?_
  refine at_reg [(2, .int .i64 ((s.length + v.length : Nat) : Int))] [0, 1, 2, 7, 8, 31] (L2 := [(0, .slice (some ⟨b, 0, none⟩) s.length c), (1, .int .i64 (p : Int)), (2, .slice (some a2) v.length c2), (7, .int .i64 (v.length : Int)), (8, .int .i64 (s.length : Int)), (31, .bool (decide (((s.length + v.length : Nat) : Int) > (c : Int))))]) (obs := [fun _ => (.int .i64 (IntKind.i64.wrap ((s.length : Int) + (v.length : Int))) : Value) = .int .i64 ((s.length + v.length : Nat) : Int)]) (by kernel_rfl) ?_ ?_
  · intro w hs; exact wrapN (by omega) (by omega)
  refine at_thn ?_
  by_cases hg : ((s.length + v.length : Nat) : Int) > (c : Int)
  · refine at_cond_t rfl (decide_eq_true hg) ?_
    have htp : (s.take p).length = p := by rw [List.length_take]; omega
    refine at_seq ?_
    refine at_ops [0, 1, 2, 3, 4, 5, 6, 7, 8, 9] rfl ?_
    refine at_seg [0, 1, 2, 3, 4, 5, 6, 7] [8, 9] rfl [(2, .slice (some ⟨b, 0, none⟩) (s.take p).length c), (5, .int .i64 ((s.length + v.length : Nat) : Int)), (7, .int .i64 ((s.length + v.length - p : Nat) : Int))] [0, 1, 2, 7, 8, 34, 39] (L2 := [(0, .slice (some ⟨b, 0, none⟩) s.length c), (1, .int .i64 (p : Int)), (2, .slice (some a2) v.length c2), (7, .int .i64 (v.length : Int)), (8, .int .i64 (s.length : Int)), (34, .slice (some ⟨b, 0, none⟩) (s.take p).length c), (39, .int .i64 ((s.length + v.length - p : Nat) : Int))]) (obs := [fun _ => 0 ≤ (0 : Int) ∧ (0 : Int) ≤ (p : Int) ∧ (p : Int) ≤ ((c : Nat) : Int), fun _ => cutV (some ⟨b, 0, none⟩) c 1 0 p = .slice (some ⟨b, 0, none⟩) (s.take p).length c, fun _ => (.int .i64 (IntKind.i64.wrap ((s.length : Int) + (v.length : Int))) : Value) = .int .i64 ((s.length + v.length : Nat) : Int), fun _ => (.int .i64 (IntKind.i64.wrap (((s.length + v.length : Nat) : Int) - (p : Int))) : Value) = .int .i64 ((s.length + v.length - p : Nat) : Int)]) (by kernel_rfl) ?_ ?_
    · intro w hs; exact ⟨⟨by omega, by omega, by omega⟩, cut_own ho hps, wrapN (by omega) (by omega), wrapN (by omega) (by omega)⟩
    refine at_eff rfl rfl ?_
    refine eff_appendMake (K := (Kd.raw 1)) (d := ([.slice none ([] : List Int).length 0] : List Value)) (xs := s.take p) (m := ((s.length + v.length - p : Nat) : Int)) rfl rfl rfl rfl rfl und22 und3 hi_ hz_ hs_ (fun _ => ⟨rfl, rfl, rfl⟩) rfl rfl (by omega) (by rw [Int.toNat_natCast]; omega) (fun w hs => (ho.take p hps).rowAt (k := 0) hs rfl) (by rw [hb_, Int.toNat_natCast]; omega) (by rw [Int.toNat_natCast]; omega) (fun b2 c3 s3 ho3 => ?_)
    simp only [Int.toNat_natCast] at ho3 ⊢
    have hgl : (s.take p ++ List.replicate (s.length + v.length - p) (([.slice none ([] : List Int).length 0] : List Value) : (List Value))).length = s.length + v.length := by simp only [List.length_append, List.length_take, List.length_replicate]; omega
    have hc3 := ho3.cap
    rw [hgl] at hc3
    obtain ⟨b2', e2_, hsp3⟩ := ho3.spare
    cases e2_
    refine at_seg [9] [] rfl [(9, .slice (some ⟨b2, 0, none⟩) (s.length + v.length) c3)] [0, 1, 2, 7, 8, 9] (L2 := [(0, .slice (some ⟨b, 0, none⟩) s.length c), (1, .int .i64 (p : Int)), (2, .slice (some a2) v.length c2), (7, .int .i64 (v.length : Int)), (8, .int .i64 (s.length : Int)), (9, .slice (some ⟨b2, 0, none⟩) (s.length + v.length) c3)]) (obs := [fun _ => (.slice (some ⟨b2, 0, none⟩) (s.take p ++ List.replicate (s.length + v.length - p) (([.slice none ([] : List Int).length 0] : List Value) : (List Value))).length c3 : Value) = .slice (some ⟨b2, 0, none⟩) (s.length + v.length) c3]) (by kernel_rfl) ?_ ?_
    · intro w hs; show (_ : Value) = _; rw [hgl]
    refine at_end ?_
    refine at_thn ?_
    refine at_seq ?_
    refine at_ops [0, 1, 2, 3, 4] rfl ?_
    refine at_seg [0, 1, 2, 3] [4] rfl [(2, .slice (some ⟨b2, p * 1, none⟩) (s.length + v.length - p) (c3 - p))] [0, 1, 2, 7, 8, 9, 43, 44] (L2 := [(0, .slice (some ⟨b, 0, none⟩) s.length c), (1, .int .i64 (p : Int)), (2, .slice (some a2) v.length c2), (7, .int .i64 (v.length : Int)), (8, .int .i64 (s.length : Int)), (9, .slice (some ⟨b2, 0, none⟩) (s.length + v.length) c3), (43, .slice (some ⟨b2, p * 1, none⟩) (s.length + v.length - p) (c3 - p)), (44, .slice (some a2) v.length c2)]) (obs := [fun _ => 0 ≤ (p : Int) ∧ (p : Int) ≤ ((s.length + v.length : Nat) : Int) ∧ ((s.length + v.length : Nat) : Int) ≤ ((c3 : Nat) : Int), fun _ => cutV (some ⟨b2, 0, none⟩) c3 1 p (s.length + v.length) = .slice (some ⟨b2, p * 1, none⟩) (s.length + v.length - p) (c3 - p)]) (by kernel_rfl) ?_ ?_
    · intro w hs; exact ⟨⟨by omega, by omega, by omega⟩, cut_at (by omega)⟩
    refine at_eff rfl rfl ?_
    refine eff_copy (K := (Kd.raw 1)) (zs := v) 0 p rfl rfl rfl rfl rfl und22 hi_ hs_ rfl rfl hsp3 rfl (fun w hs => ho2.rowAt (k := 2) hs rfl) (by omega) (by omega) (fun s4 hsp4 => ?_)
    refine at_keep [0, 1, 2, 7, 8, 9] (L2 := [(0, .slice (some ⟨b, 0, none⟩) s.length c), (1, .int .i64 (p : Int)), (2, .slice (some a2) v.length c2), (7, .int .i64 (v.length : Int)), (8, .int .i64 (s.length : Int)), (9, .slice (some ⟨b2, 0, none⟩) (s.length + v.length) c3)]) rfl ?_
    refine at_end ?_
    refine at_thn ?_
    refine at_seq ?_
    refine at_x hmo (fun w => True) [8] ?_
    have hobs : (Value.int .i64 (IntKind.i64.wrap ((p : Int) + (v.length : Int))) = .int .i64 ((p + v.length : Nat) : Int)) ∧ (0 ≤ ((p + v.length : Nat) : Int) ∧ ((p + v.length : Nat) : Int) ≤ ((s.length + v.length : Nat) : Int) ∧ ((s.length + v.length : Nat) : Int) ≤ ((c3 : Nat) : Int)) ∧ (cutV (some ⟨b2, 0, none⟩) c3 1 (p + v.length) (s.length + v.length) = .slice (some ⟨b2, (p + v.length) * 1, none⟩) (s.length - p) (c3 - (p + v.length))) ∧ (0 ≤ (p : Int) ∧ (p : Int) ≤ ((s.length : Nat) : Int) ∧ ((s.length : Nat) : Int) ≤ ((c : Nat) : Int)) ∧ (cutV (some ⟨b, 0, none⟩) c 1 p s.length = .slice (some ⟨b, p * 1, none⟩) (s.drop p).length (c - p)) := ⟨wrapN (by omega) (by omega), ⟨by omega, by omega, by omega⟩, (by rw [cut_at (by omega), show s.length + v.length - (p + v.length) = s.length - p by omega]), ⟨by omega, by omega, by omega⟩, (by rw [cut_at (by omega), List.length_drop])⟩
    refine at_xseg [0, 1, 2, 3, 4, 5, 6, 7] 1 (#[true, true, true, true, true, true, true, true, false]) rfl (by kernel_rfl) [(3, .int .i64 ((p + v.length : Nat) : Int)), (4, .slice (some ⟨b2, (p + v.length) * 1, none⟩) (s.length - p) (c3 - (p + v.length))), (7, .slice (some ⟨b, p * 1, none⟩) (s.drop p).length (c - p))] [0, 1, 2, 7, 8, 9, 50, 53] (L2 := [(0, .slice (some ⟨b, 0, none⟩) s.length c), (1, .int .i64 (p : Int)), (2, .slice (some a2) v.length c2), (7, .int .i64 (v.length : Int)), (8, .int .i64 (s.length : Int)), (9, .slice (some ⟨b2, 0, none⟩) (s.length + v.length) c3), (50, .slice (some ⟨b2, (p + v.length) * 1, none⟩) (s.length - p) (c3 - (p + v.length))), (53, .slice (some ⟨b, p * 1, none⟩) (s.drop p).length (c - p))]) (obs := [fun _ => (.int .i64 (IntKind.i64.wrap ((p : Int) + (v.length : Int))) : Value) = .int .i64 ((p + v.length : Nat) : Int), fun _ => 0 ≤ ((p + v.length : Nat) : Int) ∧ ((p + v.length : Nat) : Int) ≤ ((s.length + v.length : Nat) : Int) ∧ ((s.length + v.length : Nat) : Int) ≤ ((c3 : Nat) : Int), fun _ => cutV (some ⟨b2, 0, none⟩) c3 1 (p + v.length) (s.length + v.length) = .slice (some ⟨b2, (p + v.length) * 1, none⟩) (s.length - p) (c3 - (p + v.length)), fun _ => 0 ≤ (p : Int) ∧ (p : Int) ≤ ((s.length : Nat) : Int) ∧ ((s.length : Nat) : Int) ≤ ((c : Nat) : Int), fun _ => cutV (some ⟨b, 0, none⟩) c 1 p s.length = .slice (some ⟨b, p * 1, none⟩) (s.drop p).length (c - p)]) (by kernel_rfl) (by kernel_rfl) (by kernel_rfl) (.inr fun w hs => trivial) (fun w hS => hobs) (fun w hs => hobs) ?_
    refine at_x1 0 8 (#[true, true, true, true, true, true, true, true, true]) rfl (by kernel_rfl) (by kernel_rfl) rfl rfl ?_
    refine eff_copy (K := (Kd.raw 1)) (zs := s.drop p) 0 (p + v.length) rfl rfl rfl rfl rfl und22 hi_ hs_ rfl rfl hsp4 rfl (fun w hs => hsp.rowAt (k := 1) p (s.drop p) (fun j x hx => spare_get2 p j x hx) hs rfl) (by simp only [List.length_drop]; omega) (by simp only [List.length_drop]; omega) (fun s5 hsp5 => ?_)
    refine at_xX (by kernel_rfl) ?_
    refine at_xend (by kernel_rfl) ?_
    refine at_thn ?_
    have hown : Own (Kd.raw 1) 25 I0 (some ⟨b2, 0, none⟩) c3 (s.take p ++ v ++ s.drop p) s5 := hsp5.own (lay_ins hps (by simp only [List.length_append, List.length_map, List.length_replicate, List.length_take]; omega) (fun j hj => grown_get hps j hj)) (by omega)
    refine at_seq ?_
    refine at_reg [(1, .slice (some ⟨b2, 0, none⟩) (s.take p ++ v ++ s.drop p).length c3)] [6] (L2 := [(6, .slice (some ⟨b2, 0, none⟩) (s.take p ++ v ++ s.drop p).length c3)]) (obs := [fun _ => (.slice (some ⟨b2, 0, none⟩) (s.length + v.length) c3 : Value) = .slice (some ⟨b2, 0, none⟩) (s.take p ++ v ++ s.drop p).length c3]) (by kernel_rfl) ?_ ?_
    · intro w hs; exact (by show (_ : Value) = _; rw [hrl])
    refine at_thn ?_
    refine at_ret ?_
    refine at_then_ret ?_
    refine at_drop (k := 2) rfl rfl ?_
    refine at_drop (k := 1) rfl rfl ?_
    refine at_done (vs := [.slice (some ⟨b2, 0, none⟩) (s.take p ++ v ++ s.drop p).length c3]) (obs := []) (.inl rfl) [.tmp 6] [] rfl (by kernel_rfl) (fun w hs => trivial) (fun w hs => ⟨_, _, [s5], rfl, ⟨_, _, _, rfl, rfl, hown⟩, hle, hs⟩)
  refine at_cond_f rfl (decide_eq_false hg) ?_
  refine at_skip ?_
  refine at_thn ?_
  refine at_seq ?_
  refine at_reg [(3, .int .i64 ((s.length + v.length : Nat) : Int)), (4, .slice (some ⟨b, 0, none⟩) (s.length + v.length) c)] [0, 1, 2, 7, 8] (L2 := [(0, .slice (some ⟨b, 0, none⟩) (s.length + v.length) c), (1, .int .i64 (p : Int)), (2, .slice (some a2) v.length c2), (7, .int .i64 (v.length : Int)), (8, .int .i64 (s.length : Int))]) (obs := [fun _ => (.int .i64 (IntKind.i64.wrap ((s.length : Int) + (v.length : Int))) : Value) = .int .i64 ((s.length + v.length : Nat) : Int), fun _ => 0 ≤ (0 : Int) ∧ (0 : Int) ≤ ((s.length + v.length : Nat) : Int) ∧ ((s.length + v.length : Nat) : Int) ≤ ((c : Nat) : Int), fun _ => cutV (some ⟨b, 0, none⟩) c 1 0 (s.length + v.length) = .slice (some ⟨b, 0, none⟩) (s.length + v.length) c]) (by kernel_rfl) ?_ ?_
  · intro w hs; exact ⟨wrapN (by omega) (by omega), ⟨by omega, by omega, by omega⟩, cut_zero⟩
  refine at_thn ?_
  refine at_seq ?_
  refine at_seq ?_
  refine at_ops [0, 1, 2, 3, 4, 5, 6, 7] rfl ?_
  refine at_seg [0, 1, 2, 3, 4, 5] [6, 7] rfl [(4, .int .i64 ((p + v.length : Nat) : Int)), (5, .slice (some ⟨b, (p + v.length) * 1, none⟩) (s.length - p) (c - (p + v.length)))] [0, 1, 2, 7, 8, 61, 66] (L2 := [(0, .slice (some ⟨b, 0, none⟩) (s.length + v.length) c), (1, .int .i64 (p : Int)), (2, .slice (some a2) v.length c2), (7, .int .i64 (v.length : Int)), (8, .int .i64 (s.length : Int)), (61, .slice (some a2) v.length c2), (66, .slice (some ⟨b, (p + v.length) * 1, none⟩) (s.length - p) (c - (p + v.length)))]) (obs := [fun _ => (.int .i64 (IntKind.i64.wrap ((p : Int) + (v.length : Int))) : Value) = .int .i64 ((p + v.length : Nat) : Int), fun _ => 0 ≤ ((p + v.length : Nat) : Int) ∧ ((p + v.length : Nat) : Int) ≤ ((s.length + v.length : Nat) : Int) ∧ ((s.length + v.length : Nat) : Int) ≤ ((c : Nat) : Int), fun _ => cutV (some ⟨b, 0, none⟩) c 1 (p + v.length) (s.length + v.length) = .slice (some ⟨b, (p + v.length) * 1, none⟩) (s.length - p) (c - (p + v.length))]) (by kernel_rfl) ?_ ?_
  · intro w hs; exact ⟨wrapN (by omega) (by omega), ⟨by omega, by omega, by omega⟩, (by show (_ : Value) = _; rw [cut_at (by omega), show s.length + v.length - (p + v.length) = s.length - p by omega])⟩
  refine at_eff rfl rfl ?_
  refine eff_overlapsOwn (K := (Kd.raw 1)) (fn := Try.f64) (tS := 22) (tR := 4) 1 0 rfl rfl Try.func64 (by kernel_rfl) (by kernel_rfl) (by kernel_rfl) (by kernel_rfl) rfl und22 hi_ rfl ho2 hsp rfl rfl (by decide) (by omega) (by decide) ?_
  refine at_seg [7] [] rfl [] [0, 1, 2, 7, 8, 68] (L2 := [(0, .slice (some ⟨b, 0, none⟩) (s.length + v.length) c), (1, .int .i64 (p : Int)), (2, .slice (some a2) v.length c2), (7, .int .i64 (v.length : Int)), (8, .int .i64 (s.length : Int)), (68, .bool (!false))]) (obs := []) (by kernel_rfl) ?_ ?_
  · intro w hs; exact trivial
  refine at_end ?_
  refine at_thn ?_
  refine at_cond_t rfl rfl ?_
  refine at_seq ?_
  refine at_x hmo (fun w => True) [8] ?_
  have hobs : (Value.int .i64 (IntKind.i64.wrap ((p : Int) + (v.length : Int))) = .int .i64 ((p + v.length : Nat) : Int)) ∧ (0 ≤ ((p + v.length : Nat) : Int) ∧ ((p + v.length : Nat) : Int) ≤ ((s.length + v.length : Nat) : Int) ∧ ((s.length + v.length : Nat) : Int) ≤ ((c : Nat) : Int)) ∧ (cutV (some ⟨b, 0, none⟩) c 1 (p + v.length) (s.length + v.length) = .slice (some ⟨b, (p + v.length) * 1, none⟩) (s.length - p) (c - (p + v.length))) ∧ (0 ≤ (p : Int) ∧ (p : Int) ≤ ((s.length + v.length : Nat) : Int) ∧ ((s.length + v.length : Nat) : Int) ≤ ((c : Nat) : Int)) ∧ (cutV (some ⟨b, 0, none⟩) c 1 p (s.length + v.length) = .slice (some ⟨b, p * 1, none⟩) (s.length + v.length - p) (c - p)) := ⟨wrapN (by omega) (by omega), ⟨by omega, by omega, by omega⟩, (by rw [cut_at (by omega), show s.length + v.length - (p + v.length) = s.length - p by omega]), ⟨by omega, by omega, by omega⟩, cut_at (by omega)⟩
  refine at_xseg [0, 1, 2, 3, 4, 5, 6, 7] 1 (#[true, true, true, true, true, true, true, true, false]) rfl (by kernel_rfl) [(3, .int .i64 ((p + v.length : Nat) : Int)), (4, .slice (some ⟨b, (p + v.length) * 1, none⟩) (s.length - p) (c - (p + v.length))), (7, .slice (some ⟨b, p * 1, none⟩) (s.length + v.length - p) (c - p))] [0, 1, 2, 7, 8, 73, 76] (L2 := [(0, .slice (some ⟨b, 0, none⟩) (s.length + v.length) c), (1, .int .i64 (p : Int)), (2, .slice (some a2) v.length c2), (7, .int .i64 (v.length : Int)), (8, .int .i64 (s.length : Int)), (73, .slice (some ⟨b, (p + v.length) * 1, none⟩) (s.length - p) (c - (p + v.length))), (76, .slice (some ⟨b, p * 1, none⟩) (s.length + v.length - p) (c - p))]) (obs := [fun _ => (.int .i64 (IntKind.i64.wrap ((p : Int) + (v.length : Int))) : Value) = .int .i64 ((p + v.length : Nat) : Int), fun _ => 0 ≤ ((p + v.length : Nat) : Int) ∧ ((p + v.length : Nat) : Int) ≤ ((s.length + v.length : Nat) : Int) ∧ ((s.length + v.length : Nat) : Int) ≤ ((c : Nat) : Int), fun _ => cutV (some ⟨b, 0, none⟩) c 1 (p + v.length) (s.length + v.length) = .slice (some ⟨b, (p + v.length) * 1, none⟩) (s.length - p) (c - (p + v.length)), fun _ => 0 ≤ (p : Int) ∧ (p : Int) ≤ ((s.length + v.length : Nat) : Int) ∧ ((s.length + v.length : Nat) : Int) ≤ ((c : Nat) : Int), fun _ => cutV (some ⟨b, 0, none⟩) c 1 p (s.length + v.length) = .slice (some ⟨b, p * 1, none⟩) (s.length + v.length - p) (c - p)]) (by kernel_rfl) (by kernel_rfl) (by kernel_rfl) (.inr fun w hs => trivial) (fun w hS => hobs) (fun w hs => hobs) ?_
  refine at_x1 0 8 (#[true, true, true, true, true, true, true, true, true]) rfl (by kernel_rfl) (by kernel_rfl) rfl rfl ?_
  refine eff_copyPart (K := (Kd.raw 1)) (zs := s.drop p) 0 (p + v.length) rfl rfl rfl rfl rfl und22 hi_ hs_ rfl rfl hsp rfl (fun w hs => hsp.rowAt (k := 0) p (s.drop p) (fun j x hx => spare_get2 p j x hx) hs rfl) (by simp only [List.length_drop]; omega) (by simp only [List.length_drop]; omega) (fun s5 hsp5 => ?_)
  refine at_xX (by kernel_rfl) ?_
  refine at_xend (by kernel_rfl) ?_
  refine at_thn ?_
  refine at_keep [0, 1, 2, 7, 8] (L2 := [(0, .slice (some ⟨b, 0, none⟩) (s.length + v.length) c), (1, .int .i64 (p : Int)), (2, .slice (some a2) v.length c2), (7, .int .i64 (v.length : Int)), (8, .int .i64 (s.length : Int))]) rfl ?_
  refine at_seq ?_
  refine at_ops [0, 1, 2, 3, 4] rfl ?_
  refine at_seg [0, 1, 2, 3] [4] rfl [(2, .slice (some ⟨b, p * 1, none⟩) (s.length + v.length - p) (c - p))] [0, 1, 2, 7, 8, 80, 81] (L2 := [(0, .slice (some ⟨b, 0, none⟩) (s.length + v.length) c), (1, .int .i64 (p : Int)), (2, .slice (some a2) v.length c2), (7, .int .i64 (v.length : Int)), (8, .int .i64 (s.length : Int)), (80, .slice (some ⟨b, p * 1, none⟩) (s.length + v.length - p) (c - p)), (81, .slice (some a2) v.length c2)]) (obs := [fun _ => 0 ≤ (p : Int) ∧ (p : Int) ≤ ((s.length + v.length : Nat) : Int) ∧ ((s.length + v.length : Nat) : Int) ≤ ((c : Nat) : Int), fun _ => cutV (some ⟨b, 0, none⟩) c 1 p (s.length + v.length) = .slice (some ⟨b, p * 1, none⟩) (s.length + v.length - p) (c - p)]) (by kernel_rfl) ?_ ?_
  · intro w hs; exact ⟨⟨by omega, by omega, by omega⟩, cut_at (by omega)⟩
  refine at_eff rfl rfl ?_
  refine eff_copy (K := (Kd.raw 1)) (zs := v) 0 p rfl rfl rfl rfl rfl und22 hi_ hs_ rfl rfl hsp5 rfl (fun w hs => ho2.rowAt (k := 1) hs rfl) (by omega) (by omega) (fun s6 hsp6 => ?_)
  refine at_keep [0] (L2 := [(0, .slice (some ⟨b, 0, none⟩) (s.length + v.length) c)]) rfl ?_
  refine at_end ?_
  refine at_thn ?_
  have hown : Own (Kd.raw 1) 25 I0 (some ⟨b, 0, none⟩) c (s.take p ++ v ++ s.drop p) s6 := hsp6.own (lay_ins2 hps (by simp only [List.length_append, List.length_map, List.length_replicate]; omega) (fun j hj => spare_get j (by omega))) (by omega)
  refine at_seq ?_
  refine at_reg [(1, .slice (some ⟨b, 0, none⟩) (s.take p ++ v ++ s.drop p).length c)] [6] (L2 := [(6, .slice (some ⟨b, 0, none⟩) (s.take p ++ v ++ s.drop p).length c)]) (obs := [fun _ => (.slice (some ⟨b, 0, none⟩) (s.length + v.length) c : Value) = .slice (some ⟨b, 0, none⟩) (s.take p ++ v ++ s.drop p).length c]) (by kernel_rfl) ?_ ?_
  · intro w hs; exact (by show (_ : Value) = _; rw [hrl])
  refine at_thn ?_
  refine at_ret ?_
  refine at_then_ret ?_
  refine at_drop (k := 1) rfl rfl ?_
  refine at_done (vs := [.slice (some ⟨b, 0, none⟩) (s.take p ++ v ++ s.drop p).length c]) (obs := []) (.inl rfl) [.tmp 6] [] rfl (by kernel_rfl) (fun w hs => trivial) (fun w hs => ⟨_, _, [s6], rfl, ⟨_, _, _, rfl, rfl, hown⟩, hle, hs⟩)
def slices_Insert_int64_int64' (s : List (List Int)) (i : Int) (v : List (List Int)) : Option (List (List Int)) := if s.length + v.length ≤ 5864062014805 then (if 0 ≤ i then (if i ≤ (s.length : Int) then some (s.take i.toNat ++ v ++ s.drop i.toNat) else none) else none) else none
theorem slices_Insert_int64_int64'.calls {s : List (List Int)} {i : Int} {v r : List (List Int)} {I0 : Imm} {A A2 : Option Addr} {c c2 : Nat} {S1 S2 : Seg} (H : slices_Insert_int64_int64' s i v = some r) (ho : DOwn (DK.sl (Kd.int .i64) 2) 25 I0 A c s S1) (ho2 : DOwn (DK.sl (Kd.int .i64) 2) 25 I0 A2 c2 v S2) :
    Meets Try.prog 53 ([.slice A s.length c, .int .i64 i, .slice A2 v.length c2] : List Value).toArray I0 [S1, S2] (fun u J M => ∃ (A_1 : Option Addr) (c_2 : Nat) (s_3 : Seg), u = .slice A_1 r.length c_2 ∧ M = [s_3] ∧ DOwn (DK.sl (Kd.int .i64) 2) 25 J A_1 c_2 r s_3) := by
  unfold slices_Insert_int64_int64' at H
  obtain ⟨hl, H⟩ := ite_some H
  obtain ⟨h0, H⟩ := ite_some H
  obtain ⟨h1, H⟩ := ite_some H
  obtain rfl := Option.some.inj H
  refine insertD (p := i.toNat) (fun hs gs so to e1 e2 g1 g2 => ?_) ho ho2
  exact slices_Insert_int64_int64.calls (r := hs.take i.toNat ++ gs ++ hs.drop i.toNat) (by unfold slices_Insert_int64_int64; rw [if_pos (by rw [e1, e2]; exact hl), if_pos h0, if_pos (by rw [e1]; exact h1)]) g1 g2

/-! ### loop.example/g00146/impl.push: function 35 -/
def impl_push (k : Nat) (p87 : T_impl_Ring) (p91 : List Int) : Option T_impl_Ring := (impl_ownLists k p87.Items).bind fun b7 => ((slices_Clone_int64_int64 p91).bind fun b8 => ((slices_Insert_int64_int64' b7 0 ([b8] : List (List Int))).bind fun b9 => (if 0 ≤ (mn (b9.length : Int) 10) then (if (mn (b9.length : Int) 10) ≤ (b9.length : Int) then (some (⟨b9.take (mn (b9.length : Int) 10).toNat, 0⟩ : T_impl_Ring)) else none) else none)))
set_option maxHeartbeats 4000000 in
set_option maxRecDepth 100000 in
theorem impl_push.calls {k : Nat} {p87 : T_impl_Ring} {p91 : List Int} {r : T_impl_Ring} {I0 : Imm} {A88 : Option Addr} {c89 : Nat} {A92 : Option Addr} {c93 : Nat} (H : impl_push k p87 p91 = some r) (hr90 : Rd (Kd.slice (Kd.int .i64)) I0 A88 c89 p87.Items) (hr94 : Rd (Kd.int .i64) I0 A92 c93 p91) :
    Meets Try.prog 35 ([.agg #[.slice A88 p87.Items.length c89, .int .i64 p87.At], .slice A92 p91.length c93] : List Value).toArray I0 [] (fun v J M => ∃ (A_1 : Option Addr) (c_2 : Nat) (s_3 : Seg), v = .agg #[.slice A_1 r.Items.length c_2, .int .i64 r.At] ∧ M = [s_3] ∧ DOwn (DK.sl (Kd.int .i64) 2) 25 J A_1 c_2 r.Items s_3) := by
  have hle := ImmLe.refl I0
  unfold impl_push at H
  refine fn_intro (fn := Try.f35) 19 Try.func35 rfl rfl rfl (fun E Fs => ?_)
  refine at_seq ?_
  refine at_ops [0, 1] rfl ?_
  refine at_eff rfl rfl ?_
  refine eff_box rfl rfl rfl #[.slice A88 p87.Items.length c89, .int .i64 p87.At] rfl (fun g95 => ?_)
  refine at_eff rfl rfl ?_
  obtain ⟨i_, hi_, hz_, _, _⟩ := info27
  refine eff_alloc rfl rfl hi_ hz_ #[.slice none ([] : List (List Int)).length 0, .int .i64 0] rfl (fun g96 => ?_)
  refine at_end ?_
  refine at_thn ?_
  refine at_seq ?_
  refine at_ops [0, 1, 2, 3, 4, 5, 6, 7] rfl ?_
  refine at_seg [0, 1] [2, 3, 4, 5, 6, 7] rfl [(1, .slice A88 p87.Items.length c89)] [1, 4, 7] (L2 := [(1, .slice A92 p91.length c93), (4, .pointer (some ⟨g96, 0, none⟩)), (7, .slice A88 p87.Items.length c89)]) (obs := [fun w => w.cell? ⟨g95, 0, none⟩ = some (.slice A88 p87.Items.length c89)]) (by kernel_rfl) ?_ ?_
  · intro w hs; exact hs.var (k := 1) rfl 0 rfl
  refine at_eff rfl rfl ?_
  obtain ⟨b7, H97, H⟩ := bind_some H
  have hm_ := impl_ownLists.calls (I0 := I0) H97 hr90
  refine eff_call rfl rfl ok52 rfl rfl (show Meets Try.prog 52 ([.slice A88 p87.Items.length c89] : List Value).toArray _ [] _ from hm_) (Mr := ([(g96, .cells #[.slice none ([] : List (List Int)).length 0, .int .i64 0] 27 (0, 0))] :: [(g95, .cells #[.slice A88 p87.Items.length c89, .int .i64 p87.At] 27 (0, 0))] :: Fs)) (List.Perm.refl _) (fun v98 J99 M100 hq101 hJ102 => ?_)
  replace hle := hle.trans hJ102
  replace hr90 := hr90.mono hJ102
  replace hr94 := hr94.mono hJ102
  obtain ⟨A103, c104, s105, rfl, rfl, ho106⟩ := hq101
  refine at_seg [3] [4, 5, 6, 7] rfl [] [4, 8, 9] (L2 := [(4, .pointer (some ⟨g96, 0, none⟩)), (8, .slice A103 b7.length c104), (9, .slice A92 p91.length c93)]) (obs := []) (by kernel_rfl) ?_ ?_
  · intro w hs; exact trivial
  refine at_eff rfl rfl ?_
  obtain ⟨b8, H107, H⟩ := bind_some H
  have hm_ := slices_Clone_int64_int64.calls (I0 := J99) H107 hr94
  refine eff_call rfl rfl ok48 rfl rfl (show Meets Try.prog 48 ([.slice A92 p91.length c93] : List Value).toArray _ [] _ from hm_) (Mr := (s105 :: [(g96, .cells #[.slice none ([] : List (List Int)).length 0, .int .i64 0] 27 (0, 0))] :: [(g95, .cells #[.slice A88 p87.Items.length c89, .int .i64 p87.At] 27 (0, 0))] :: Fs)) (List.Perm.refl _) (fun v108 J109 M110 hq111 hJ112 => ?_)
  replace hle := hle.trans hJ112
  replace ho106 := ho106.mono hJ112
  replace hr90 := hr90.mono hJ112
  replace hr94 := hr94.mono hJ112
  obtain ⟨A113, c114, s115, rfl, rfl, ho116⟩ := hq111
  refine at_eff rfl rfl ?_
  refine eff_buildSlice (e := 25) (cells := #[.slice A113 b8.length c114]) ([b8] : List (List Int)).length rfl rfl rfl (by kernel_rfl) (fun g117 => ?_)
  have hd118 := own_lit (K := Kd.raw 1) (e := 25) (I := J109) (xs := ([[.slice A113 b8.length c114]] : List (List Value))) (css := ([[.slice A113 b8.length c114]] : List (List Value))) (cells := #[.slice A113 b8.length c114]) (b := g117) ⟨⟨rfl, rfl, rfl⟩, trivial⟩ rfl
  refine at_merge 1 0 rfl rfl rfl ?_
  replace hd118 : DOwn (DK.sl (Kd.int .i64) 2) 25 J109 (some ⟨g117, 0, none⟩ : Option Addr) (([b8] : List (List Int)).length) ([b8] : List (List Int)) (s115 ++ [(g117, .cells #[.slice A113 b8.length c114] 25 (0, 0))]) := DOwn.lit (hs := [[.slice A113 b8.length c114]]) (sis := [s115]) hd118 ⟨⟨_, _, rfl, ho116⟩, trivial⟩ (perm_lit1 _ _)
  refine at_eff rfl rfl ?_
  obtain ⟨b9, H119, H⟩ := bind_some H
  have hm_ := slices_Insert_int64_int64'.calls (I0 := J109) H119 ho106 hd118
  refine eff_call rfl rfl ok53 rfl rfl (show Meets Try.prog 53 ([.slice A103 b7.length c104, .int .i64 0, .slice (some ⟨g117, 0, none⟩ : Option Addr) ([b8] : List (List Int)).length (([b8] : List (List Int)).length)] : List Value).toArray _ [s105, (s115 ++ [(g117, .cells #[.slice A113 b8.length c114] 25 (0, 0))])] _ from hm_) (Mr := ([(g96, .cells #[.slice none ([] : List (List Int)).length 0, .int .i64 0] 27 (0, 0))] :: [(g95, .cells #[.slice A88 p87.Items.length c89, .int .i64 p87.At] 27 (0, 0))] :: Fs)) ((perm_at (k := 1) rfl).trans ((List.Perm.refl _).cons _)) (fun v120 J121 M122 hq123 hJ124 => ?_)
  replace hle := hle.trans hJ124
  replace hr90 := hr90.mono hJ124
  replace hr94 := hr94.mono hJ124
  obtain ⟨A125, c126, s127, rfl, rfl, ho128⟩ := hq123
  refine at_seg [7] [] rfl [] [4, 5] (L2 := [(4, .pointer (some ⟨g96, 0, none⟩)), (5, .slice A125 b9.length c126)]) (obs := []) (by kernel_rfl) ?_ ?_
  · intro w hs; exact trivial
  refine at_end ?_
  refine at_thn ?_
  refine at_seq ?_
  refine at_ops [0, 1, 2, 3, 4, 5, 6] rfl ?_
  obtain ⟨h129, H⟩ := ite_some H
  obtain ⟨h130, H⟩ := ite_some H
  have ho131 := ho128.take (mn (b9.length : Int) 10).toNat (nat_le h129 h130)
  refine at_seg [0, 1, 2, 3, 4, 5] [6] rfl [(4, .slice A125 (b9.take (mn (b9.length : Int) 10).toNat).length c126)] [4, 18] (L2 := [(4, .pointer (some ⟨g96, 0, none⟩)), (18, .agg #[.slice A125 (b9.take (mn (b9.length : Int) 10).toNat).length c126, .int .i64 0])]) (obs := [fun _ => 0 ≤ (0 : Int) ∧ (0 : Int) ≤ (mn (b9.length : Int) 10) ∧ (mn (b9.length : Int) 10) ≤ ((c126 : Nat) : Int), fun _ => cutV A125 c126 1 0 (mn (b9.length : Int) 10).toNat = .slice A125 (b9.take (mn (b9.length : Int) 10).toNat).length c126]) (by kernel_rfl) ?_ ?_
  · intro w hs; exact ⟨⟨Int.le_refl _, h129, Int.le_trans h130 (Int.ofNat_le.2 ho128.cap)⟩, cut_downD ho128 (nat_le h129 h130)⟩
  refine at_eff rfl rfl ?_
  refine eff_store 1 rfl rfl rfl rfl rfl rfl (.inl (Nat.le_refl _)) rfl (Nat.le_of_ble_eq_true (by kernel_rfl)) rfl ?_
  refine at_end ?_
  refine at_thn ?_
  refine at_ret ?_
  obtain rfl := Option.some.inj H
  refine at_drop (k := 2) rfl rfl ?_
  refine at_done (vs := [.agg #[.slice A125 (b9.take (mn (b9.length : Int) 10).toNat).length c126, .int .i64 0]]) (obs := [fun w => CellsAt w ⟨g96, 0, none⟩ [.slice A125 (b9.take (mn (b9.length : Int) 10).toNat).length c126, .int .i64 0] 0]) (.inl rfl) [.cell 4 27] [(4, .agg #[.slice A125 (b9.take (mn (b9.length : Int) 10).toNat).length c126, .int .i64 0])] rfl (by kernel_rfl) (fun w hs => cellsV (k := 1) hs rfl _ 0 (Nat.le_of_ble_eq_true (by kernel_rfl)) rfl) (fun w hs => ⟨_, _, [s127], rfl, ⟨A125, c126, s127, rfl, rfl, ho131⟩, hle, (hs.tail (perm_at (k := 1) rfl))⟩)
end Go.Proofs.Ytabdhegmepaeiaa
