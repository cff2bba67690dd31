import Derived.Test.YtabdhegmepaeiaaG1
namespace Go.Proofs.Ytabdhegmepaeiaa
open Go Eng
set_option linter.unusedVariables false
set_option linter.unusedSimpArgs false
/-! ### loop.example/g00146/spec.RingRight: function 19 -/
def spec_RingRight (k : Nat) (p49 : T_impl_Ring) : Option Bool := (spec_l04Items k p49.Items 10).bind fun b4 => (if b4 = true then (if p49.At ≥ 0 then (if p49.At < (p49.Items.length : Int) then (some true) else (if p49.At = 0 then (some ((p49.Items.length : Int) == 0)) else (some false))) else (some false)) else (some false))
set_option maxHeartbeats 4000000 in
set_option maxRecDepth 100000 in
theorem spec_RingRight.calls {k : Nat} {p49 : T_impl_Ring} {r : Bool} {I0 : Imm} {A50 : Option Addr} {c51 : Nat} (H : spec_RingRight k p49 = some r) (hr52 : Rd (Kd.slice (Kd.int .i64)) I0 A50 c51 p49.Items) :
    Meets Try.prog 19 ([.agg #[.slice A50 p49.Items.length c51, .int .i64 p49.At]] : List Value).toArray I0 [] (fun v J M => v = .bool r ∧ M = []) := by
  have hle := ImmLe.refl I0
  unfold spec_RingRight at H
  refine fn_intro (fn := Try.f19) 30 Try.func19 rfl rfl rfl (fun E Fs => ?_)
  refine at_seq ?_
  refine at_ops [0, 1] rfl ?_
  refine at_eff rfl rfl ?_
  refine eff_box rfl rfl rfl #[.slice A50 p49.Items.length c51, .int .i64 p49.At] rfl (fun g53 => ?_)
  refine at_seg [1] [] rfl [] [1] (L2 := [(1, .pointer (some ⟨g53, 0, none⟩))]) (obs := []) (by kernel_rfl) ?_ ?_
  · intro w hs; exact trivial
  refine at_end ?_
  refine at_thn ?_
  refine at_seq ?_
  refine at_ops [0, 1, 2, 3, 4, 5, 6, 7, 8, 9, 10, 11, 12, 13, 14, 15, 16, 17, 18, 19, 20, 21, 22, 23, 24, 25, 26, 27] rfl ?_
  refine at_seg [0, 1] [2, 3, 4, 5, 6, 7, 8, 9, 10, 11, 12, 13, 14, 15, 16, 17, 18, 19, 20, 21, 22, 23, 24, 25, 26, 27] rfl [(1, .slice A50 p49.Items.length c51)] [1, 4] (L2 := [(1, .pointer (some ⟨g53, 0, none⟩)), (4, .slice A50 p49.Items.length c51)]) (obs := [fun w => w.cell? ⟨g53, 0, none⟩ = some (.slice A50 p49.Items.length c51)]) (by kernel_rfl) ?_ ?_
  · intro w hs; exact hs.var (k := 0) rfl 0 rfl
  refine at_eff rfl rfl ?_
  obtain ⟨b4, H54, H⟩ := bind_some H
  have hm_ := spec_l04Items.calls (I0 := I0) H54 hr52
  refine eff_call rfl rfl ok43 rfl rfl (show Meets Try.prog 43 ([.slice A50 p49.Items.length c51, .int .i64 10] : List Value).toArray _ [] _ from hm_) (Mr := ([(g53, .cells #[.slice A50 p49.Items.length c51, .int .i64 p49.At] 27 (0, 0))] :: Fs)) (List.Perm.refl _) (fun v55 J56 M57 hq58 hJ59 => ?_)
  replace hle := hle.trans hJ59
  replace hr52 := hr52.mono hJ59
  obtain ⟨rfl, rfl⟩ := hq58
  by_cases h60 : b4 = true
  · rw [if_pos h60] at H
    by_cases h61 : p49.At ≥ 0
    · rw [if_pos h61] at H
      by_cases h62 : p49.At < (p49.Items.length : Int)
      · rw [if_pos h62] at H
        refine at_seg [3, 4, 5, 6, 7, 8, 9, 10, 11, 12, 13, 14, 15, 16, 17, 18, 19, 20, 21, 22, 23, 24, 25, 26, 27] [] rfl [(3, .bool true), (5, .int .i64 p49.At), (8, .bool true), (10, .int .i64 p49.At), (12, .slice A50 p49.Items.length c51), (15, .bool true)] [2] (L2 := [(2, .bool true)]) (obs := [fun _ => (.bool b4 : Value) = .bool true, fun w => w.cell? ⟨g53, 1, none⟩ = some (.int .i64 p49.At), fun _ => (.bool (decide (p49.At ≥ 0)) : Value) = .bool true, fun w => w.cell? ⟨g53, 1, none⟩ = some (.int .i64 p49.At), fun w => w.cell? ⟨g53, 0, none⟩ = some (.slice A50 p49.Items.length c51), fun _ => (.bool (decide (p49.At < (p49.Items.length : Int))) : Value) = .bool true]) (by kernel_rfl) ?_ ?_
        · intro w hs; exact ⟨congrArg Value.bool (h60), hs.var (k := 0) rfl 1 rfl, congrArg Value.bool (decide_eq_true h61), hs.var (k := 0) rfl 1 rfl, hs.var (k := 0) rfl 0 rfl, congrArg Value.bool (decide_eq_true h62)⟩
        refine at_end ?_
        refine at_thn ?_
        refine at_ret ?_
        obtain rfl := Option.some.inj H
        refine at_drop (k := 0) rfl rfl ?_
        refine at_done (vs := [.bool true]) (obs := []) (.inl rfl) [.tmp 2] [] rfl (by kernel_rfl) (fun w hs => trivial) (fun w hs => ⟨_, _, [], rfl, ⟨rfl, rfl⟩, hle, hs⟩)
      · rw [if_neg h62] at H
        by_cases h63 : p49.At = 0
        · rw [if_pos h63] at H
          refine at_seg [3, 4, 5, 6, 7, 8, 9, 10, 11, 12, 13, 14, 15, 16, 17, 18, 19, 20, 21, 22, 23, 24, 25, 26, 27] [] rfl [(3, .bool true), (5, .int .i64 p49.At), (8, .bool true), (10, .int .i64 p49.At), (12, .slice A50 p49.Items.length c51), (15, .bool false), (17, .int .i64 p49.At), (19, .bool true), (21, .slice A50 p49.Items.length c51)] [2] (L2 := [(2, .bool ((p49.Items.length : Int) == 0))]) (obs := [fun _ => (.bool b4 : Value) = .bool true, fun w => w.cell? ⟨g53, 1, none⟩ = some (.int .i64 p49.At), fun _ => (.bool (decide (p49.At ≥ 0)) : Value) = .bool true, fun w => w.cell? ⟨g53, 1, none⟩ = some (.int .i64 p49.At), fun w => w.cell? ⟨g53, 0, none⟩ = some (.slice A50 p49.Items.length c51), fun _ => (.bool (decide (p49.At < (p49.Items.length : Int))) : Value) = .bool false, fun w => w.cell? ⟨g53, 1, none⟩ = some (.int .i64 p49.At), fun _ => (.bool (p49.At == 0) : Value) = .bool true, fun w => w.cell? ⟨g53, 0, none⟩ = some (.slice A50 p49.Items.length c51)]) (by kernel_rfl) ?_ ?_
          · intro w hs; exact ⟨congrArg Value.bool (h60), hs.var (k := 0) rfl 1 rfl, congrArg Value.bool (decide_eq_true h61), hs.var (k := 0) rfl 1 rfl, hs.var (k := 0) rfl 0 rfl, congrArg Value.bool (decide_eq_false h62), hs.var (k := 0) rfl 1 rfl, congrArg Value.bool (beq_iff_eq.2 h63), hs.var (k := 0) rfl 0 rfl⟩
          refine at_end ?_
          refine at_thn ?_
          refine at_ret ?_
          obtain rfl := Option.some.inj H
          refine at_drop (k := 0) rfl rfl ?_
          refine at_done (vs := [.bool ((p49.Items.length : Int) == 0)]) (obs := []) (.inl rfl) [.tmp 2] [] rfl (by kernel_rfl) (fun w hs => trivial) (fun w hs => ⟨_, _, [], rfl, ⟨rfl, rfl⟩, hle, hs⟩)
        · rw [if_neg h63] at H
          refine at_seg [3, 4, 5, 6, 7, 8, 9, 10, 11, 12, 13, 14, 15, 16, 17, 18, 19, 20, 21, 22, 23, 24, 25, 26, 27] [] rfl [(3, .bool true), (5, .int .i64 p49.At), (8, .bool true), (10, .int .i64 p49.At), (12, .slice A50 p49.Items.length c51), (15, .bool false), (17, .int .i64 p49.At), (19, .bool false)] [2] (L2 := [(2, .bool false)]) (obs := [fun _ => (.bool b4 : Value) = .bool true, fun w => w.cell? ⟨g53, 1, none⟩ = some (.int .i64 p49.At), fun _ => (.bool (decide (p49.At ≥ 0)) : Value) = .bool true, fun w => w.cell? ⟨g53, 1, none⟩ = some (.int .i64 p49.At), fun w => w.cell? ⟨g53, 0, none⟩ = some (.slice A50 p49.Items.length c51), fun _ => (.bool (decide (p49.At < (p49.Items.length : Int))) : Value) = .bool false, fun w => w.cell? ⟨g53, 1, none⟩ = some (.int .i64 p49.At), fun _ => (.bool (p49.At == 0) : Value) = .bool false]) (by kernel_rfl) ?_ ?_
          · intro w hs; exact ⟨congrArg Value.bool (h60), hs.var (k := 0) rfl 1 rfl, congrArg Value.bool (decide_eq_true h61), hs.var (k := 0) rfl 1 rfl, hs.var (k := 0) rfl 0 rfl, congrArg Value.bool (decide_eq_false h62), hs.var (k := 0) rfl 1 rfl, congrArg Value.bool (beq_eq_false_iff_ne.2 h63)⟩
          refine at_end ?_
          refine at_thn ?_
          refine at_ret ?_
          obtain rfl := Option.some.inj H
          refine at_drop (k := 0) rfl rfl ?_
          refine at_done (vs := [.bool false]) (obs := []) (.inl rfl) [.tmp 2] [] rfl (by kernel_rfl) (fun w hs => trivial) (fun w hs => ⟨_, _, [], rfl, ⟨rfl, rfl⟩, hle, hs⟩)
    · rw [if_neg h61] at H
      refine at_seg [3, 4, 5, 6, 7, 8, 9, 10, 11, 12, 13, 14, 15, 16, 17, 18, 19, 20, 21, 22, 23, 24, 25, 26, 27] [] rfl [(3, .bool true), (5, .int .i64 p49.At), (8, .bool false)] [2] (L2 := [(2, .bool false)]) (obs := [fun _ => (.bool b4 : Value) = .bool true, fun w => w.cell? ⟨g53, 1, none⟩ = some (.int .i64 p49.At), fun _ => (.bool (decide (p49.At ≥ 0)) : Value) = .bool false]) (by kernel_rfl) ?_ ?_
      · intro w hs; exact ⟨congrArg Value.bool (h60), hs.var (k := 0) rfl 1 rfl, congrArg Value.bool (decide_eq_false h61)⟩
      refine at_end ?_
      refine at_thn ?_
      refine at_ret ?_
      obtain rfl := Option.some.inj H
      refine at_drop (k := 0) rfl rfl ?_
      refine at_done (vs := [.bool false]) (obs := []) (.inl rfl) [.tmp 2] [] rfl (by kernel_rfl) (fun w hs => trivial) (fun w hs => ⟨_, _, [], rfl, ⟨rfl, rfl⟩, hle, hs⟩)
  · rw [if_neg h60] at H
    refine at_seg [3, 4, 5, 6, 7, 8, 9, 10, 11, 12, 13, 14, 15, 16, 17, 18, 19, 20, 21, 22, 23, 24, 25, 26, 27] [] rfl [(3, .bool false)] [2] (L2 := [(2, .bool false)]) (obs := [fun _ => (.bool b4 : Value) = .bool false]) (by kernel_rfl) ?_ ?_
    · intro w hs; exact congrArg Value.bool (ff_of h60)
    refine at_end ?_
    refine at_thn ?_
    refine at_ret ?_
    obtain rfl := Option.some.inj H
    refine at_drop (k := 0) rfl rfl ?_
    refine at_done (vs := [.bool false]) (obs := []) (.inl rfl) [.tmp 2] [] rfl (by kernel_rfl) (fun w hs => trivial) (fun w hs => ⟨_, _, [], rfl, ⟨rfl, rfl⟩, hle, hs⟩)

/-! ### loop.example/g00146/spec.l01Copy: function 29 -/
def spec_l01Copy (p72 : List Int) : Option (List Int) := if ([] : List Int).length + p72.length ≤ 17592186044416 then (some (([] : List Int) ++ p72)) else none
set_option maxHeartbeats 4000000 in
set_option maxRecDepth 100000 in
theorem spec_l01Copy.calls {p72 : List Int} {r : (List Int)} {I0 : Imm} {A73 : Option Addr} {c74 : Nat} (H : spec_l01Copy p72 = some r) (hr75 : Rd (Kd.int .i64) I0 A73 c74 p72) :
    Meets Try.prog 29 ([.slice A73 p72.length c74] : List Value).toArray I0 [] (fun v J M => ∃ (A_1 : Option Addr) (c_2 : Nat) (s_3 : Seg), v = .slice A_1 r.length c_2 ∧ M = [s_3] ∧ Own (Kd.int .i64) 2 J A_1 c_2 r s_3) := by
  have hle := ImmLe.refl I0
  unfold spec_l01Copy at H
  refine fn_intro (fn := Try.f29) 6 Try.func29 rfl rfl rfl (fun E Fs => ?_)
  refine at_seq ?_
  refine at_reg [] [0] (L2 := [(0, .slice A73 p72.length c74)]) (obs := []) (by kernel_rfl) ?_ ?_
  · intro w hs; exact trivial
  refine at_thn ?_
  refine at_seq ?_
  refine at_ops [0, 1, 2, 3] rfl ?_
  refine at_eff rfl rfl ?_
  refine eff_buildSlice (e := 2) (cells := #[]) ([] : List Int).length rfl rfl rfl (by kernel_rfl) (fun g76 => ?_)
  have ho77 := own_lit (K := (Kd.int .i64)) (e := 2) (I := I0) (xs := ([] : List Int)) (css := []) (cells := #[]) (b := g76) trivial rfl
  refine at_seg [1] [2, 3] rfl [] [3, 4] (L2 := [(3, .slice (some ⟨g76, 0, none⟩ : Option Addr) ([] : List Int).length (([] : List Int).length)), (4, .slice A73 p72.length c74)]) (obs := []) (by kernel_rfl) ?_ ?_
  · intro w hs; exact trivial
  refine at_eff rfl rfl ?_
  obtain ⟨h78, H⟩ := ite_some H
  obtain ⟨i_, hi_, hz_, hs_, hb_⟩ := info2
  refine eff_append (K := (Kd.int .i64)) (xs := ([] : List Int)) (ys := p72) 0 rfl rfl rfl rfl rfl und25 und25 hi_ hz_ hs_ rfl rfl rfl ho77 rfl (fun w hs => hr75.rowAt hs) (by rw [hb_]; omega) (by omega) (fun A79 c80 s81 ho82 => ?_)
  refine at_seg [3] [] rfl [] [2] (L2 := [(2, .slice A79 (([] : List Int) ++ p72).length c80)]) (obs := []) (by kernel_rfl) ?_ ?_
  · intro w hs; exact trivial
  refine at_end ?_
  refine at_thn ?_
  refine at_ret ?_
  obtain rfl := Option.some.inj H
  refine at_done (vs := [.slice A79 (([] : List Int) ++ p72).length c80]) (obs := []) (.inl rfl) [.tmp 2] [] rfl (by kernel_rfl) (fun w hs => trivial) (fun w hs => ⟨_, _, [s81], rfl, ⟨A79, c80, s81, rfl, rfl, ho82⟩, hle, hs⟩)

/-! ### loop.example/g00146/spec.l04CopyAll: function 30 -/
def spec_l04CopyAll_l0 : Nat → (List (List Int)) → Int → (List (List Int)) → Option (List (List Int))
  | 0, _, _, _ => none
  | k + 1, x64, x69, p58 => if x69 < (p58.length : Int) then (if 0 ≤ x69 then ((spec_l01Copy (rdA [] p58 x69)).bind fun b4 => (if x64.length + ([b4] : List (List Int)).length ≤ 5864062014805 then (spec_l04CopyAll_l0 k (x64 ++ ([b4] : List (List Int))) (IntKind.i64.wrap (x69 + 1)) p58) else none)) else none) else (some x64)
def spec_l04CopyAll (k : Nat) (p58 : List (List Int)) : Option (List (List Int)) := spec_l04CopyAll_l0 k ([] : List (List Int)) 0 p58
set_option maxHeartbeats 4000000 in
set_option maxRecDepth 100000 in
theorem spec_l04CopyAll.calls {k : Nat} {p58 : List (List Int)} {r : (List (List Int))} {I0 : Imm} {A59 : Option Addr} {c60 : Nat} (H : spec_l04CopyAll k p58 = some r) (hr61 : Rd (Kd.slice (Kd.int .i64)) I0 A59 c60 p58) :
    Meets Try.prog 30 ([.slice A59 p58.length c60] : List Value).toArray I0 [] (fun v J M => ∃ (A_1 : Option Addr) (c_2 : Nat) (s_3 : Seg), v = .slice A_1 r.length c_2 ∧ M = [s_3] ∧ DOwn (DK.sl (Kd.int .i64) 2) 25 J A_1 c_2 r s_3) := by
  have hle := ImmLe.refl I0
  unfold spec_l04CopyAll at H
  refine fn_intro (fn := Try.f30) 21 Try.func30 rfl rfl rfl (fun E Fs => ?_)
  refine at_seq ?_
  refine at_reg [] [0] (L2 := [(0, .slice A59 p58.length c60)]) (obs := []) (by kernel_rfl) ?_ ?_
  · intro w hs; exact trivial
  refine at_thn ?_
  refine at_seq ?_
  refine at_ops [0, 1] rfl ?_
  refine at_eff rfl rfl ?_
  refine eff_buildSlice (e := 25) (cells := #[]) ([] : List (List Int)).length rfl rfl rfl (by kernel_rfl) (fun g62 => ?_)
  have hd63 := own_lit (K := Kd.raw 1) (e := 25) (I := I0) (xs := ([] : List (List Value))) (css := ([] : List (List Value))) (cells := #[]) (b := g62) trivial rfl
  replace hd63 : DOwn (DK.sl (Kd.int .i64) 2) 25 I0 (some ⟨g62, 0, none⟩ : Option Addr) (([] : List (List Int)).length) ([] : List (List Int)) [(g62, .cells #[] 25 (0, 0))] := DOwn.lit (hs := []) (sis := []) hd63 trivial (by simp)
  refine at_seg [1] [] rfl [] [0, 3] (L2 := [(0, .slice A59 p58.length c60), (3, .slice (some ⟨g62, 0, none⟩ : Option Addr) ([] : List (List Int)).length (([] : List (List Int)).length))]) (obs := []) (by kernel_rfl) ?_ ?_
  · intro w hs; exact trivial
  refine at_end ?_
  refine at_thn ?_
  refine at_seq ?_
  refine at_seq ?_
  refine at_reg [] [0, 3, 4] (L2 := [(0, .slice A59 p58.length c60), (3, .slice (some ⟨g62, 0, none⟩ : Option Addr) ([] : List (List Int)).length (([] : List (List Int)).length)), (4, .int .i64 0)]) (obs := []) (by kernel_rfl) ?_ ?_
  · intro w hs; exact trivial
  refine at_thn ?_
  refine at_block ?_
  refine at_keep [0, 3, 4] (L2 := [(0, .slice A59 p58.length c60), (3, .slice (some ⟨g62, 0, none⟩ : Option Addr) ([] : List (List Int)).length (([] : List (List Int)).length)), (4, .int .i64 0)]) rfl ?_
  refine at_loop (fun k70 L I Ms => ∃ (x64 : List (List Int)) (A65 : Option Addr) (c66 : Nat) (s67 : Seg) (x69 : Int), L = [(0, .slice A59 p58.length c60), (3, .slice A65 x64.length c66), (4, .int .i64 x69)] ∧ Ms = (s67 :: Fs) ∧ spec_l04CopyAll_l0 k70 x64 x69 p58 = some r ∧ ImmLe I0 I ∧ k70 ≤ k ∧ DOwn (DK.sl (Kd.int .i64) 2) 25 I A65 c66 x64 s67 ∧ Rd (Kd.slice (Kd.int .i64)) I A59 c60 p58) ?_ ?_ k ⟨([] : List (List Int)), (some ⟨g62, 0, none⟩ : Option Addr), ([] : List (List Int)).length, [(g62, .cells #[] 25 (0, 0))], 0, rfl, rfl, H, hle, Nat.le_refl _, hd63, hr61⟩
  · rintro L I Ms ⟨_, _, _, _, _, rfl, rfl, H, _⟩; exact no_none H
  · clear H hle hd63 hr61
    intro k70 ih71 L I Ms h_; obtain ⟨x64, A65, c66, s67, x69, hL_, hM_, H, hle, hk72, ho68, hr61⟩ := h_; rw [hL_, hM_]; clear hL_ hM_ L Ms
    rw [spec_l04CopyAll_l0] at H
    refine at_seq ?_
    refine at_seq ?_
    refine at_reg [] [0, 3, 4, 9] (L2 := [(0, .slice A59 p58.length c60), (3, .slice A65 x64.length c66), (4, .int .i64 x69), (9, .bool (decide (x69 < (p58.length : Int))))]) (obs := []) (by kernel_rfl) ?_ ?_
    · intro w hs; exact trivial
    refine at_thn ?_
    by_cases h73 : x69 < (p58.length : Int)
    · rw [if_pos h73] at H
      refine at_cond_t rfl (decide_eq_true h73) ?_
      refine at_skip ?_
      refine at_thn ?_
      refine at_seq ?_
      refine at_block ?_
      refine at_ops [0, 1, 2, 3, 4, 5, 6, 7, 8] rfl ?_
      obtain ⟨h74, H⟩ := ite_some H
      obtain ⟨cs79, hz80, hc75⟩ := hr61.elem [] x69 h74 h73
      obtain ⟨A76, c77, rfl, hr78⟩ := hz80
      refine at_seg [0, 1, 2, 3, 4] [5, 6, 7, 8] rfl [(4, .slice A76 (rdA [] p58 x69).length c77)] [0, 3, 4, 12, 16] (L2 := [(0, .slice A59 p58.length c60), (3, .slice A65 x64.length c66), (4, .int .i64 x69), (12, .slice A65 x64.length c66), (16, .slice A76 (rdA [] p58 x69).length c77)]) (obs := [fun _ => A59.isSome = true ∧ 0 ≤ x69 ∧ x69 < ((p58.length : Nat) : Int), fun w => w.cell? ((A59.getD ad0).add (x69.toNat * 1)) = some (.slice A76 (rdA [] p58 x69).length c77)]) (by kernel_rfl) ?_ ?_
      · intro w hs; exact ⟨⟨hr61.ne x69 h74 h73, h74, h73⟩, cell0 (hc75 0 _ rfl hs)⟩
      refine at_eff rfl rfl ?_
      obtain ⟨b4, H81, H⟩ := bind_some H
      have hm_ := spec_l01Copy.calls (I0 := I) H81 hr78
      refine eff_call rfl rfl ok29 rfl rfl (show Meets Try.prog 29 ([.slice A76 (rdA [] p58 x69).length c77] : List Value).toArray _ [] _ from hm_) (Mr := (s67 :: Fs)) (List.Perm.refl _) (fun v82 J83 M84 hq85 hJ86 => ?_)
      replace hle := hle.trans hJ86
      replace ho68 := ho68.mono hJ86
      replace hr61 := hr61.mono hJ86
      replace hr78 := hr78.mono hJ86
      obtain ⟨A87, c88, s89, rfl, rfl, ho90⟩ := hq85
      refine at_eff rfl rfl ?_
      refine eff_buildSlice (e := 25) (cells := #[.slice A87 b4.length c88]) ([b4] : List (List Int)).length rfl rfl rfl (by kernel_rfl) (fun g91 => ?_)
      have hd92 := own_lit (K := Kd.raw 1) (e := 25) (I := J83) (xs := ([[.slice A87 b4.length c88]] : List (List Value))) (css := ([[.slice A87 b4.length c88]] : List (List Value))) (cells := #[.slice A87 b4.length c88]) (b := g91) ⟨⟨rfl, rfl, rfl⟩, trivial⟩ rfl
      refine at_merge 1 0 rfl rfl rfl ?_
      replace hd92 : DOwn (DK.sl (Kd.int .i64) 2) 25 J83 (some ⟨g91, 0, none⟩ : Option Addr) (([b4] : List (List Int)).length) ([b4] : List (List Int)) (s89 ++ [(g91, .cells #[.slice A87 b4.length c88] 25 (0, 0))]) := DOwn.lit (hs := [[.slice A87 b4.length c88]]) (sis := [s89]) hd92 ⟨⟨_, _, rfl, ho90⟩, trivial⟩ (perm_lit1 _ _)
      refine at_eff rfl rfl ?_
      obtain ⟨h93, H⟩ := ite_some H
      obtain ⟨i_, hi_, hz_, hs_, hb_⟩ := info25
      refine eff_appendD (D := (DK.sl (Kd.int .i64) 2)) (xs := x64) (ys := ([b4] : List (List Int))) 0 0 rfl rfl rfl rfl rfl und22 und22 hi_ hz_ hs_ rfl rfl rfl ho68 hd92 rfl rfl (by rw [hb_]; omega) (by omega) (fun A94 c95 s96 hd97 => ?_)
      refine at_seg [8] [] rfl [] [0, 3, 4] (L2 := [(0, .slice A59 p58.length c60), (3, .slice A94 (x64 ++ ([b4] : List (List Int))).length c95), (4, .int .i64 x69)]) (obs := []) (by kernel_rfl) ?_ ?_
      · intro w hs; exact trivial
      refine at_end ?_
      refine at_in_norm ?_
      refine at_thn ?_
      refine at_reg [] [0, 3, 4] (L2 := [(0, .slice A59 p58.length c60), (3, .slice A94 (x64 ++ ([b4] : List (List Int))).length c95), (4, .int .i64 (IntKind.i64.wrap (x69 + 1)))]) (obs := []) (by kernel_rfl) ?_ ?_
      · intro w hs; exact trivial
      refine at_thn ?_
      refine at_keep [0, 3, 4] (L2 := [(0, .slice A59 p58.length c60), (3, .slice A94 (x64 ++ ([b4] : List (List Int))).length c95), (4, .int .i64 (IntKind.i64.wrap (x69 + 1)))]) rfl ?_
      exact ih71 _ (by omega) _ _ _ ⟨(x64 ++ ([b4] : List (List Int))), A94, c95, s96, IntKind.i64.wrap (x69 + 1), rfl, rfl, H, hle, by omega, hd97, hr61⟩
    · rw [if_neg h73] at H
      refine at_cond_f rfl (decide_eq_false h73) ?_
      refine at_exit ?_
      refine at_then_exit ?_
      refine at_then_exit ?_
      refine at_in_hit ?_
      refine at_thn ?_
      refine at_seq ?_
      refine at_reg [] [2] (L2 := [(2, .slice A65 x64.length c66)]) (obs := []) (by kernel_rfl) ?_ ?_
      · intro w hs; exact trivial
      refine at_thn ?_
      refine at_ret ?_
      obtain rfl := Option.some.inj H
      refine at_done (vs := [.slice A65 x64.length c66]) (obs := []) (.inl rfl) [.tmp 2] [] rfl (by kernel_rfl) (fun w hs => trivial) (fun w hs => ⟨_, _, [s67], rfl, ⟨A65, c66, s67, rfl, rfl, ho68⟩, hle, hs⟩)

/-! ### loop.example/g00146/spec.l04Copy: function 28 -/
def spec_l04Copy (k : Nat) (p52 : T_impl_Ring) : Option T_impl_Ring := (spec_l04CopyAll k p52.Items).bind fun b4 => (some (⟨b4, p52.At⟩ : T_impl_Ring))
set_option maxHeartbeats 4000000 in
set_option maxRecDepth 100000 in
theorem spec_l04Copy.calls {k : Nat} {p52 : T_impl_Ring} {r : T_impl_Ring} {I0 : Imm} {A53 : Option Addr} {c54 : Nat} (H : spec_l04Copy k p52 = some r) (hr55 : Rd (Kd.slice (Kd.int .i64)) I0 A53 c54 p52.Items) :
    Meets Try.prog 28 ([.agg #[.slice A53 p52.Items.length c54, .int .i64 p52.At]] : List Value).toArray I0 [] (fun v J M => ∃ (A_1 : Option Addr) (c_2 : Nat) (s_3 : Seg), v = .agg #[.slice A_1 r.Items.length c_2, .int .i64 r.At] ∧ M = [s_3] ∧ DOwn (DK.sl (Kd.int .i64) 2) 25 J A_1 c_2 r.Items s_3) := by
  have hle := ImmLe.refl I0
  unfold spec_l04Copy at H
  refine fn_intro (fn := Try.f28) 9 Try.func28 rfl rfl rfl (fun E Fs => ?_)
  refine at_seq ?_
  refine at_ops [0, 1] rfl ?_
  refine at_eff rfl rfl ?_
  refine eff_box rfl rfl rfl #[.slice A53 p52.Items.length c54, .int .i64 p52.At] rfl (fun g56 => ?_)
  refine at_eff rfl rfl ?_
  obtain ⟨i_, hi_, hz_, _, _⟩ := info27
  refine eff_alloc rfl rfl hi_ hz_ #[.slice none ([] : List (List Int)).length 0, .int .i64 0] rfl (fun g57 => ?_)
  refine at_end ?_
  refine at_thn ?_
  refine at_seq ?_
  refine at_x hmo (fun w => w.cell? ⟨g56, 0, none⟩ = some (.slice A53 p52.Items.length c54) ∧ w.cell? ⟨g56, 1, none⟩ = some (.int .i64 p52.At)) [6] ?_
  refine at_xseg [0, 1, 3, 4] 3 (#[true, true, false, true, true, false, false]) rfl (by kernel_rfl) [(1, .slice A53 p52.Items.length c54), (4, .int .i64 p52.At)] [2, 4, 7] (L2 := [(2, .pointer (some ⟨g57, 0, none⟩)), (4, .slice A53 p52.Items.length c54), (7, .int .i64 p52.At)]) (obs := [fun w => w.cell? ⟨g56, 0, none⟩ = some (.slice A53 p52.Items.length c54), fun w => w.cell? ⟨g56, 1, none⟩ = some (.int .i64 p52.At)]) (by kernel_rfl) (by kernel_rfl) (by kernel_rfl) (.inr fun w hs => ⟨hs.var (k := 1) rfl 0 rfl, hs.var (k := 1) rfl 1 rfl⟩) (fun w hS => ⟨hS.1, hS.2⟩) (fun w hs => ⟨hs.var (k := 1) rfl 0 rfl, hs.var (k := 1) rfl 1 rfl⟩) ?_
  refine at_x1 2 2 (#[true, true, true, true, true, false, false]) rfl (by kernel_rfl) (by kernel_rfl) rfl rfl ?_
  obtain ⟨b4, H58, H⟩ := bind_some H
  have hm_ := spec_l04CopyAll.calls (I0 := I0) H58 hr55
  refine eff_call rfl rfl ok30 rfl rfl (show Meets Try.prog 30 ([.slice A53 p52.Items.length c54] : List Value).toArray _ [] _ from hm_) (Mr := ([(g57, .cells #[.slice none ([] : List (List Int)).length 0, .int .i64 0] 27 (0, 0))] :: [(g56, .cells #[.slice A53 p52.Items.length c54, .int .i64 p52.At] 27 (0, 0))] :: Fs)) (List.Perm.refl _) (fun v59 J60 M61 hq62 hJ63 => ?_)
  replace hle := hle.trans hJ63
  replace hr55 := hr55.mono hJ63
  obtain ⟨A64, c65, s66, rfl, rfl, ho67⟩ := hq62
  refine at_xS (fun w hs => ⟨hs.var (k := 2) rfl 0 rfl, hs.var (k := 2) rfl 1 rfl⟩) ?_
  refine at_xseg [5] 1 (#[true, true, true, true, true, true, false]) rfl (by kernel_rfl) [] [2, 8] (L2 := [(2, .pointer (some ⟨g57, 0, none⟩)), (8, .agg #[.slice A64 b4.length c65, .int .i64 p52.At])]) (obs := []) (by kernel_rfl) (by kernel_rfl) (by kernel_rfl) (.inr fun w hs => ⟨hs.var (k := 2) rfl 0 rfl, hs.var (k := 2) rfl 1 rfl⟩) (fun w hS => trivial) (fun w hs => trivial) ?_
  refine at_x1 0 6 (#[true, true, true, true, true, true, true]) rfl (by kernel_rfl) (by kernel_rfl) rfl rfl ?_
  refine eff_store 1 rfl rfl rfl rfl rfl rfl (.inl (Nat.le_refl _)) rfl (Nat.le_of_ble_eq_true (by kernel_rfl)) rfl ?_
  refine at_xX (by kernel_rfl) ?_
  refine at_xend (by kernel_rfl) ?_
  refine at_thn ?_
  refine at_ret ?_
  obtain rfl := Option.some.inj H
  refine at_drop (k := 2) rfl rfl ?_
  refine at_done (vs := [.agg #[.slice A64 b4.length c65, .int .i64 p52.At]]) (obs := [fun w => CellsAt w ⟨g57, 0, none⟩ [.slice A64 b4.length c65, .int .i64 p52.At] 0]) (.inl rfl) [.cell 2 27] [(2, .agg #[.slice A64 b4.length c65, .int .i64 p52.At])] rfl (by kernel_rfl) (fun w hs => cellsV (k := 1) hs rfl _ 0 (Nat.le_of_ble_eq_true (by kernel_rfl)) rfl) (fun w hs => ⟨_, _, [s66], rfl, ⟨A64, c65, s66, rfl, rfl, ho67⟩, hle, (hs.tail (perm_at (k := 1) rfl))⟩)
end Go.Proofs.Ytabdhegmepaeiaa
