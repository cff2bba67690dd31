import Derived.Test.YtabdhegmepaeiaaJ1
namespace Go.Proofs.Ytabdhegmepaeiaa
open Go Eng
set_option linter.unusedVariables false
set_option linter.unusedSimpArgs false
/-! ### loop.example/g00146/spec.RingRight: function 19 -/
def spec_RingRight (k : Nat) (p51 : T_impl_Ring) : Option Bool := (spec_l04Items k p51.Items 10).bind fun b4 => (if b4 = true then (if p51.At ≥ 0 then (if p51.At < (p51.Items.length : Int) then (some true) else (if p51.At = 0 then (some ((p51.Items.length : Int) == 0)) else (some false))) else (some false)) else (some false))
set_option maxHeartbeats 4000000 in
set_option maxRecDepth 100000 in
theorem spec_RingRight.calls {k : Nat} {p51 : T_impl_Ring} {r : Bool} {I0 : Imm} {A52 : Option Addr} {c53 : Nat} (H : spec_RingRight k p51 = some r) (hr54 : Rd (Kd.slice (Kd.int .i64)) I0 A52 c53 p51.Items) :
    Meets Try.prog 19 ([.agg #[.slice A52 p51.Items.length c53, .int .i64 p51.At]] : List Value).toArray I0 [] (fun v J M => v = .bool r ∧ M = []) := by
  have hle := ImmLe.refl I0
  unfold spec_RingRight at H
  refine fn_intro (fn := Try.f19) 30 Try.func19 rfl rfl rfl (fun E Fs => ?_)
  refine at_seq ?_
  refine at_ops [0, 1] rfl ?_
  refine at_eff rfl rfl ?_
  refine eff_box rfl rfl rfl #[.slice A52 p51.Items.length c53, .int .i64 p51.At] rfl (fun g55 => ?_)
  refine at_seg [1] [] rfl [] [1] (L2 := [(1, .pointer (some ⟨g55, 0, none⟩))]) (obs := []) (by kernel_rfl) ?_ ?_
  · intro w hs; exact trivial
  refine at_end ?_
  refine at_thn ?_
  refine at_seq ?_
  refine at_ops [0, 1, 2, 3, 4, 5, 6, 7, 8, 9, 10, 11, 12, 13, 14, 15, 16, 17, 18, 19, 20, 21, 22, 23, 24, 25, 26, 27] rfl ?_
  refine at_seg [0, 1] [2, 3, 4, 5, 6, 7, 8, 9, 10, 11, 12, 13, 14, 15, 16, 17, 18, 19, 20, 21, 22, 23, 24, 25, 26, 27] rfl [(1, .slice A52 p51.Items.length c53)] [1, 4] (L2 := [(1, .pointer (some ⟨g55, 0, none⟩)), (4, .slice A52 p51.Items.length c53)]) (obs := [fun w => w.cell? ⟨g55, 0, none⟩ = some (.slice A52 p51.Items.length c53)]) (by kernel_rfl) ?_ ?_
  · intro w hs; exact hs.var (k := 0) rfl 0 rfl
  refine at_eff rfl rfl ?_
  obtain ⟨b4, H56, H⟩ := bind_some H
  have hm_ := spec_l04Items.calls (I0 := I0) H56 hr54
  refine eff_call rfl rfl ok43 rfl rfl (show Meets Try.prog 43 ([.slice A52 p51.Items.length c53, .int .i64 10] : List Value).toArray _ [] _ from hm_) (Mr := ([(g55, .cells #[.slice A52 p51.Items.length c53, .int .i64 p51.At] 27 (0, 0))] :: Fs)) (List.Perm.refl _) (fun v57 J58 M59 hq60 hJ61 => ?_)
  replace hle := hle.trans hJ61
  replace hr54 := hr54.mono hJ61
  obtain ⟨rfl, rfl⟩ := hq60
  by_cases h62 : b4 = true
  · rw [if_pos h62] at H
    by_cases h63 : p51.At ≥ 0
    · rw [if_pos h63] at H
      by_cases h64 : p51.At < (p51.Items.length : Int)
      · rw [if_pos h64] at H
        refine at_seg [3, 4, 5, 6, 7, 8, 9, 10, 11, 12, 13, 14, 15, 16, 17, 18, 19, 20, 21, 22, 23, 24, 25, 26, 27] [] rfl [(3, .bool true), (5, .int .i64 p51.At), (8, .bool true), (10, .int .i64 p51.At), (12, .slice A52 p51.Items.length c53), (15, .bool true)] [2] (L2 := [(2, .bool true)]) (obs := [fun _ => (.bool b4 : Value) = .bool true, fun w => w.cell? ⟨g55, 1, none⟩ = some (.int .i64 p51.At), fun _ => (.bool (decide (p51.At ≥ 0)) : Value) = .bool true, fun w => w.cell? ⟨g55, 1, none⟩ = some (.int .i64 p51.At), fun w => w.cell? ⟨g55, 0, none⟩ = some (.slice A52 p51.Items.length c53), fun _ => (.bool (decide (p51.At < (p51.Items.length : Int))) : Value) = .bool true]) (by kernel_rfl) ?_ ?_
        · intro w hs; exact ⟨congrArg Value.bool (h62), hs.var (k := 0) rfl 1 rfl, congrArg Value.bool (decide_eq_true h63), hs.var (k := 0) rfl 1 rfl, hs.var (k := 0) rfl 0 rfl, congrArg Value.bool (decide_eq_true h64)⟩
        refine at_end ?_
        refine at_thn ?_
        refine at_ret ?_
        obtain rfl := Option.some.inj H
        refine at_drop (k := 0) rfl rfl ?_
        refine at_done (vs := [.bool true]) (obs := []) (.inl rfl) [.tmp 2] [] rfl (by kernel_rfl) (fun w hs => trivial) (fun w hs => ⟨_, _, [], rfl, ⟨rfl, rfl⟩, hle, hs⟩)
      · rw [if_neg h64] at H
        by_cases h65 : p51.At = 0
        · rw [if_pos h65] at H
          refine at_seg [3, 4, 5, 6, 7, 8, 9, 10, 11, 12, 13, 14, 15, 16, 17, 18, 19, 20, 21, 22, 23, 24, 25, 26, 27] [] rfl [(3, .bool true), (5, .int .i64 p51.At), (8, .bool true), (10, .int .i64 p51.At), (12, .slice A52 p51.Items.length c53), (15, .bool false), (17, .int .i64 p51.At), (19, .bool true), (21, .slice A52 p51.Items.length c53)] [2] (L2 := [(2, .bool ((p51.Items.length : Int) == 0))]) (obs := [fun _ => (.bool b4 : Value) = .bool true, fun w => w.cell? ⟨g55, 1, none⟩ = some (.int .i64 p51.At), fun _ => (.bool (decide (p51.At ≥ 0)) : Value) = .bool true, fun w => w.cell? ⟨g55, 1, none⟩ = some (.int .i64 p51.At), fun w => w.cell? ⟨g55, 0, none⟩ = some (.slice A52 p51.Items.length c53), fun _ => (.bool (decide (p51.At < (p51.Items.length : Int))) : Value) = .bool false, fun w => w.cell? ⟨g55, 1, none⟩ = some (.int .i64 p51.At), fun _ => (.bool (p51.At == 0) : Value) = .bool true, fun w => w.cell? ⟨g55, 0, none⟩ = some (.slice A52 p51.Items.length c53)]) (by kernel_rfl) ?_ ?_
          · intro w hs; exact ⟨congrArg Value.bool (h62), hs.var (k := 0) rfl 1 rfl, congrArg Value.bool (decide_eq_true h63), hs.var (k := 0) rfl 1 rfl, hs.var (k := 0) rfl 0 rfl, congrArg Value.bool (decide_eq_false h64), hs.var (k := 0) rfl 1 rfl, congrArg Value.bool (beq_iff_eq.2 h65), hs.var (k := 0) rfl 0 rfl⟩
          refine at_end ?_
          refine at_thn ?_
          refine at_ret ?_
          obtain rfl := Option.some.inj H
          refine at_drop (k := 0) rfl rfl ?_
          refine at_done (vs := [.bool ((p51.Items.length : Int) == 0)]) (obs := []) (.inl rfl) [.tmp 2] [] rfl (by kernel_rfl) (fun w hs => trivial) (fun w hs => ⟨_, _, [], rfl, ⟨rfl, rfl⟩, hle, hs⟩)
        · rw [if_neg h65] at H
          refine at_seg [3, 4, 5, 6, 7, 8, 9, 10, 11, 12, 13, 14, 15, 16, 17, 18, 19, 20, 21, 22, 23, 24, 25, 26, 27] [] rfl [(3, .bool true), (5, .int .i64 p51.At), (8, .bool true), (10, .int .i64 p51.At), (12, .slice A52 p51.Items.length c53), (15, .bool false), (17, .int .i64 p51.At), (19, .bool false)] [2] (L2 := [(2, .bool false)]) (obs := [fun _ => (.bool b4 : Value) = .bool true, fun w => w.cell? ⟨g55, 1, none⟩ = some (.int .i64 p51.At), fun _ => (.bool (decide (p51.At ≥ 0)) : Value) = .bool true, fun w => w.cell? ⟨g55, 1, none⟩ = some (.int .i64 p51.At), fun w => w.cell? ⟨g55, 0, none⟩ = some (.slice A52 p51.Items.length c53), fun _ => (.bool (decide (p51.At < (p51.Items.length : Int))) : Value) = .bool false, fun w => w.cell? ⟨g55, 1, none⟩ = some (.int .i64 p51.At), fun _ => (.bool (p51.At == 0) : Value) = .bool false]) (by kernel_rfl) ?_ ?_
          · intro w hs; exact ⟨congrArg Value.bool (h62), hs.var (k := 0) rfl 1 rfl, congrArg Value.bool (decide_eq_true h63), hs.var (k := 0) rfl 1 rfl, hs.var (k := 0) rfl 0 rfl, congrArg Value.bool (decide_eq_false h64), hs.var (k := 0) rfl 1 rfl, congrArg Value.bool (beq_eq_false_iff_ne.2 h65)⟩
          refine at_end ?_
          refine at_thn ?_
          refine at_ret ?_
          obtain rfl := Option.some.inj H
          refine at_drop (k := 0) rfl rfl ?_
          refine at_done (vs := [.bool false]) (obs := []) (.inl rfl) [.tmp 2] [] rfl (by kernel_rfl) (fun w hs => trivial) (fun w hs => ⟨_, _, [], rfl, ⟨rfl, rfl⟩, hle, hs⟩)
    · rw [if_neg h63] at H
      refine at_seg [3, 4, 5, 6, 7, 8, 9, 10, 11, 12, 13, 14, 15, 16, 17, 18, 19, 20, 21, 22, 23, 24, 25, 26, 27] [] rfl [(3, .bool true), (5, .int .i64 p51.At), (8, .bool false)] [2] (L2 := [(2, .bool false)]) (obs := [fun _ => (.bool b4 : Value) = .bool true, fun w => w.cell? ⟨g55, 1, none⟩ = some (.int .i64 p51.At), fun _ => (.bool (decide (p51.At ≥ 0)) : Value) = .bool false]) (by kernel_rfl) ?_ ?_
      · intro w hs; exact ⟨congrArg Value.bool (h62), hs.var (k := 0) rfl 1 rfl, congrArg Value.bool (decide_eq_false h63)⟩
      refine at_end ?_
      refine at_thn ?_
      refine at_ret ?_
      obtain rfl := Option.some.inj H
      refine at_drop (k := 0) rfl rfl ?_
      refine at_done (vs := [.bool false]) (obs := []) (.inl rfl) [.tmp 2] [] rfl (by kernel_rfl) (fun w hs => trivial) (fun w hs => ⟨_, _, [], rfl, ⟨rfl, rfl⟩, hle, hs⟩)
  · rw [if_neg h62] at H
    refine at_seg [3, 4, 5, 6, 7, 8, 9, 10, 11, 12, 13, 14, 15, 16, 17, 18, 19, 20, 21, 22, 23, 24, 25, 26, 27] [] rfl [(3, .bool false)] [2] (L2 := [(2, .bool false)]) (obs := [fun _ => (.bool b4 : Value) = .bool false]) (by kernel_rfl) ?_ ?_
    · intro w hs; exact congrArg Value.bool (ff_of h62)
    refine at_end ?_
    refine at_thn ?_
    refine at_ret ?_
    obtain rfl := Option.some.inj H
    refine at_drop (k := 0) rfl rfl ?_
    refine at_done (vs := [.bool false]) (obs := []) (.inl rfl) [.tmp 2] [] rfl (by kernel_rfl) (fun w hs => trivial) (fun w hs => ⟨_, _, [], rfl, ⟨rfl, rfl⟩, hle, hs⟩)

/-! ### loop.example/g00146/spec.l01Copy: function 29 -/
def spec_l01Copy (p74 : List Int) : Option (List Int) := if ([] : List Int).length + p74.length ≤ 17592186044416 then (some (([] : List Int) ++ p74)) else none
set_option maxHeartbeats 4000000 in
set_option maxRecDepth 100000 in
theorem spec_l01Copy.calls {p74 : List Int} {r : (List Int)} {I0 : Imm} {A75 : Option Addr} {c76 : Nat} (H : spec_l01Copy p74 = some r) (hr77 : Rd (Kd.int .i64) I0 A75 c76 p74) :
    Meets Try.prog 29 ([.slice A75 p74.length c76] : List Value).toArray I0 [] (fun v J M => ∃ (A_1 : Option Addr) (c_2 : Nat) (s_3 : Seg), v = .slice A_1 r.length c_2 ∧ M = [s_3] ∧ Own (Kd.int .i64) 2 J A_1 c_2 r s_3) := by
  have hle := ImmLe.refl I0
  unfold spec_l01Copy at H
  refine fn_intro (fn := Try.f29) 6 Try.func29 rfl rfl rfl (fun E Fs => ?_)
  refine at_seq ?_
  refine at_reg [] [0] (L2 := [(0, .slice A75 p74.length c76)]) (obs := []) (by kernel_rfl) ?_ ?_
  · intro w hs; exact trivial
  refine at_thn ?_
  refine at_seq ?_
  refine at_ops [0, 1, 2, 3] rfl ?_
  refine at_eff rfl rfl ?_
  refine eff_buildSlice (e := 2) (cells := #[]) ([] : List Int).length rfl rfl rfl (by kernel_rfl) (fun g78 => ?_)
  have ho79 := own_lit (K := (Kd.int .i64)) (e := 2) (I := I0) (xs := ([] : List Int)) (css := []) (cells := #[]) (b := g78) trivial rfl
  refine at_seg [1] [2, 3] rfl [] [3, 4] (L2 := [(3, .slice (some ⟨g78, 0, none⟩ : Option Addr) ([] : List Int).length (([] : List Int).length)), (4, .slice A75 p74.length c76)]) (obs := []) (by kernel_rfl) ?_ ?_
  · intro w hs; exact trivial
  refine at_eff rfl rfl ?_
  obtain ⟨h80, H⟩ := ite_some H
  obtain ⟨i_, hi_, hz_, hs_, hb_⟩ := info2
  refine eff_append (K := (Kd.int .i64)) (xs := ([] : List Int)) (ys := p74) 0 rfl rfl rfl rfl rfl und25 und25 hi_ hz_ hs_ rfl rfl rfl ho79 rfl (fun w hs => hr77.rowAt hs) (by rw [hb_]; omega) (by omega) (fun A81 c82 s83 ho84 => ?_)
  refine at_seg [3] [] rfl [] [2] (L2 := [(2, .slice A81 (([] : List Int) ++ p74).length c82)]) (obs := []) (by kernel_rfl) ?_ ?_
  · intro w hs; exact trivial
  refine at_end ?_
  refine at_thn ?_
  refine at_ret ?_
  obtain rfl := Option.some.inj H
  refine at_done (vs := [.slice A81 (([] : List Int) ++ p74).length c82]) (obs := []) (.inl rfl) [.tmp 2] [] rfl (by kernel_rfl) (fun w hs => trivial) (fun w hs => ⟨_, _, [s83], rfl, ⟨A81, c82, s83, rfl, rfl, ho84⟩, hle, hs⟩)

/-! ### loop.example/g00146/spec.l04CopyAll: function 30 -/
def spec_l04CopyAll_l0 : Nat → (List (List Int)) → Int → (List (List Int)) → Option (List (List Int))
  | 0, _, _, _ => none
  | k + 1, x66, x71, p60 => if x71 < (p60.length : Int) then (if 0 ≤ x71 then ((spec_l01Copy (rdA [] p60 x71)).bind fun b4 => (if x66.length + ([b4] : List (List Int)).length ≤ 5864062014805 then (spec_l04CopyAll_l0 k (x66 ++ ([b4] : List (List Int))) (IntKind.i64.wrap (x71 + 1)) p60) else none)) else none) else (some x66)
def spec_l04CopyAll (k : Nat) (p60 : List (List Int)) : Option (List (List Int)) := spec_l04CopyAll_l0 k ([] : List (List Int)) 0 p60
set_option maxHeartbeats 4000000 in
set_option maxRecDepth 100000 in
theorem spec_l04CopyAll.calls {k : Nat} {p60 : List (List Int)} {r : (List (List Int))} {I0 : Imm} {A61 : Option Addr} {c62 : Nat} (H : spec_l04CopyAll k p60 = some r) (hr63 : Rd (Kd.slice (Kd.int .i64)) I0 A61 c62 p60) :
    Meets Try.prog 30 ([.slice A61 p60.length c62] : List Value).toArray I0 [] (fun v J M => ∃ (A_1 : Option Addr) (c_2 : Nat) (s_3 : Seg), v = .slice A_1 r.length c_2 ∧ M = [s_3] ∧ DOwn (DK.sl (Kd.int .i64) 2) 25 J A_1 c_2 r s_3) := by
  have hle := ImmLe.refl I0
  unfold spec_l04CopyAll at H
  refine fn_intro (fn := Try.f30) 21 Try.func30 rfl rfl rfl (fun E Fs => ?_)
  refine at_seq ?_
  refine at_reg [] [0] (L2 := [(0, .slice A61 p60.length c62)]) (obs := []) (by kernel_rfl) ?_ ?_
  · intro w hs; exact trivial
  refine at_thn ?_
  refine at_seq ?_
  refine at_ops [0, 1] rfl ?_
  refine at_eff rfl rfl ?_
  refine eff_buildSlice (e := 25) (cells := #[]) ([] : List (List Int)).length rfl rfl rfl (by kernel_rfl) (fun g64 => ?_)
  have hd65 := own_lit (K := Kd.raw 1) (e := 25) (I := I0) (xs := ([] : List (List Value))) (css := ([] : List (List Value))) (cells := #[]) (b := g64) trivial rfl
  replace hd65 : DOwn (DK.sl (Kd.int .i64) 2) 25 I0 (some ⟨g64, 0, none⟩ : Option Addr) (([] : List (List Int)).length) ([] : List (List Int)) [(g64, .cells #[] 25 (0, 0))] := DOwn.lit (hs := []) (sis := []) hd65 trivial (by simp)
  refine at_seg [1] [] rfl [] [0, 3] (L2 := [(0, .slice A61 p60.length c62), (3, .slice (some ⟨g64, 0, none⟩ : Option Addr) ([] : List (List Int)).length (([] : List (List Int)).length))]) (obs := []) (by kernel_rfl) ?_ ?_
  · intro w hs; exact trivial
  refine at_end ?_
  refine at_thn ?_
  refine at_seq ?_
  refine at_seq ?_
  refine at_reg [] [0, 3, 4] (L2 := [(0, .slice A61 p60.length c62), (3, .slice (some ⟨g64, 0, none⟩ : Option Addr) ([] : List (List Int)).length (([] : List (List Int)).length)), (4, .int .i64 0)]) (obs := []) (by kernel_rfl) ?_ ?_
  · intro w hs; exact trivial
  refine at_thn ?_
  refine at_block ?_
  refine at_keep [0, 3, 4] (L2 := [(0, .slice A61 p60.length c62), (3, .slice (some ⟨g64, 0, none⟩ : Option Addr) ([] : List (List Int)).length (([] : List (List Int)).length)), (4, .int .i64 0)]) rfl ?_
  refine at_loop (fun k72 L I Ms => ∃ (x66 : List (List Int)) (A67 : Option Addr) (c68 : Nat) (s69 : Seg) (x71 : Int), L = [(0, .slice A61 p60.length c62), (3, .slice A67 x66.length c68), (4, .int .i64 x71)] ∧ Ms = (s69 :: Fs) ∧ spec_l04CopyAll_l0 k72 x66 x71 p60 = some r ∧ ImmLe I0 I ∧ k72 ≤ k ∧ DOwn (DK.sl (Kd.int .i64) 2) 25 I A67 c68 x66 s69 ∧ Rd (Kd.slice (Kd.int .i64)) I A61 c62 p60) ?_ ?_ k ⟨([] : List (List Int)), (some ⟨g64, 0, none⟩ : Option Addr), ([] : List (List Int)).length, [(g64, .cells #[] 25 (0, 0))], 0, rfl, rfl, H, hle, Nat.le_refl _, hd65, hr63⟩
  · rintro L I Ms ⟨_, _, _, _, _, rfl, rfl, H, _⟩; exact no_none H
  · clear H hle hd65 hr63
    intro k72 ih73 L I Ms h_; obtain ⟨x66, A67, c68, s69, x71, hL_, hM_, H, hle, hk74, ho70, hr63⟩ := h_; rw [hL_, hM_]; clear hL_ hM_ L Ms
    rw [spec_l04CopyAll_l0] at H
    refine at_seq ?_
    refine at_seq ?_
    refine at_reg [] [0, 3, 4, 9] (L2 := [(0, .slice A61 p60.length c62), (3, .slice A67 x66.length c68), (4, .int .i64 x71), (9, .bool (decide (x71 < (p60.length : Int))))]) (obs := []) (by kernel_rfl) ?_ ?_
    · intro w hs; exact trivial
    refine at_thn ?_
    by_cases h75 : x71 < (p60.length : Int)
    · rw [if_pos h75] at H
      refine at_cond_t rfl (decide_eq_true h75) ?_
      refine at_skip ?_
      refine at_thn ?_
      refine at_seq ?_
      refine at_block ?_
      refine at_ops [0, 1, 2, 3, 4, 5, 6, 7, 8] rfl ?_
      obtain ⟨h76, H⟩ := ite_some H
      obtain ⟨cs81, hz82, hc77⟩ := hr63.elem [] x71 h76 h75
      obtain ⟨A78, c79, rfl, hr80⟩ := hz82
      refine at_seg [0, 1, 2, 3, 4] [5, 6, 7, 8] rfl [(4, .slice A78 (rdA [] p60 x71).length c79)] [0, 3, 4, 12, 16] (L2 := [(0, .slice A61 p60.length c62), (3, .slice A67 x66.length c68), (4, .int .i64 x71), (12, .slice A67 x66.length c68), (16, .slice A78 (rdA [] p60 x71).length c79)]) (obs := [fun _ => A61.isSome = true ∧ 0 ≤ x71 ∧ x71 < ((p60.length : Nat) : Int), fun w => w.cell? ((A61.getD ad0).add (x71.toNat * 1)) = some (.slice A78 (rdA [] p60 x71).length c79)]) (by kernel_rfl) ?_ ?_
      · intro w hs; exact ⟨⟨hr63.ne x71 h76 h75, h76, h75⟩, cell0 (hc77 0 _ rfl hs)⟩
      refine at_eff rfl rfl ?_
      obtain ⟨b4, H83, H⟩ := bind_some H
      have hm_ := spec_l01Copy.calls (I0 := I) H83 hr80
      refine eff_call rfl rfl ok29 rfl rfl (show Meets Try.prog 29 ([.slice A78 (rdA [] p60 x71).length c79] : List Value).toArray _ [] _ from hm_) (Mr := (s69 :: Fs)) (List.Perm.refl _) (fun v84 J85 M86 hq87 hJ88 => ?_)
      replace hle := hle.trans hJ88
      replace ho70 := ho70.mono hJ88
      replace hr63 := hr63.mono hJ88
      replace hr80 := hr80.mono hJ88
      obtain ⟨A89, c90, s91, rfl, rfl, ho92⟩ := hq87
      refine at_eff rfl rfl ?_
      refine eff_buildSlice (e := 25) (cells := #[.slice A89 b4.length c90]) ([b4] : List (List Int)).length rfl rfl rfl (by kernel_rfl) (fun g93 => ?_)
      have hd94 := own_lit (K := Kd.raw 1) (e := 25) (I := J85) (xs := ([[.slice A89 b4.length c90]] : List (List Value))) (css := ([[.slice A89 b4.length c90]] : List (List Value))) (cells := #[.slice A89 b4.length c90]) (b := g93) ⟨⟨rfl, rfl, rfl⟩, trivial⟩ rfl
      refine at_merge 1 0 rfl rfl rfl ?_
      replace hd94 : DOwn (DK.sl (Kd.int .i64) 2) 25 J85 (some ⟨g93, 0, none⟩ : Option Addr) (([b4] : List (List Int)).length) ([b4] : List (List Int)) (s91 ++ [(g93, .cells #[.slice A89 b4.length c90] 25 (0, 0))]) := DOwn.lit (hs := [[.slice A89 b4.length c90]]) (sis := [s91]) hd94 ⟨⟨_, _, rfl, ho92⟩, trivial⟩ (perm_lit1 _ _)
      refine at_eff rfl rfl ?_
      obtain ⟨h95, H⟩ := ite_some H
      obtain ⟨i_, hi_, hz_, hs_, hb_⟩ := info25
      refine eff_appendD (D := (DK.sl (Kd.int .i64) 2)) (xs := x66) (ys := ([b4] : List (List Int))) 0 0 rfl rfl rfl rfl rfl und22 und22 hi_ hz_ hs_ rfl rfl rfl ho70 hd94 rfl rfl (by rw [hb_]; omega) (by omega) (fun A96 c97 s98 hd99 => ?_)
      refine at_seg [8] [] rfl [] [0, 3, 4] (L2 := [(0, .slice A61 p60.length c62), (3, .slice A96 (x66 ++ ([b4] : List (List Int))).length c97), (4, .int .i64 x71)]) (obs := []) (by kernel_rfl) ?_ ?_
      · intro w hs; exact trivial
      refine at_end ?_
      refine at_in_norm ?_
      refine at_thn ?_
      refine at_reg [] [0, 3, 4] (L2 := [(0, .slice A61 p60.length c62), (3, .slice A96 (x66 ++ ([b4] : List (List Int))).length c97), (4, .int .i64 (IntKind.i64.wrap (x71 + 1)))]) (obs := []) (by kernel_rfl) ?_ ?_
      · intro w hs; exact trivial
      refine at_thn ?_
      refine at_keep [0, 3, 4] (L2 := [(0, .slice A61 p60.length c62), (3, .slice A96 (x66 ++ ([b4] : List (List Int))).length c97), (4, .int .i64 (IntKind.i64.wrap (x71 + 1)))]) rfl ?_
      exact ih73 _ (by omega) _ _ _ ⟨(x66 ++ ([b4] : List (List Int))), A96, c97, s98, IntKind.i64.wrap (x71 + 1), rfl, rfl, H, hle, by omega, hd99, hr63⟩
    · rw [if_neg h75] at H
      refine at_cond_f rfl (decide_eq_false h75) ?_
      refine at_exit ?_
      refine at_then_exit ?_
      refine at_then_exit ?_
      refine at_in_hit ?_
      refine at_thn ?_
      refine at_seq ?_
      refine at_reg [] [2] (L2 := [(2, .slice A67 x66.length c68)]) (obs := []) (by kernel_rfl) ?_ ?_
      · intro w hs; exact trivial
      refine at_thn ?_
      refine at_ret ?_
      obtain rfl := Option.some.inj H
      refine at_done (vs := [.slice A67 x66.length c68]) (obs := []) (.inl rfl) [.tmp 2] [] rfl (by kernel_rfl) (fun w hs => trivial) (fun w hs => ⟨_, _, [s69], rfl, ⟨A67, c68, s69, rfl, rfl, ho70⟩, hle, hs⟩)

/-! ### loop.example/g00146/spec.l04Copy: function 28 -/
def spec_l04Copy (k : Nat) (p54 : T_impl_Ring) : Option T_impl_Ring := (spec_l04CopyAll k p54.Items).bind fun b4 => (some (⟨b4, p54.At⟩ : T_impl_Ring))
set_option maxHeartbeats 4000000 in
set_option maxRecDepth 100000 in
theorem spec_l04Copy.calls {k : Nat} {p54 : T_impl_Ring} {r : T_impl_Ring} {I0 : Imm} {A55 : Option Addr} {c56 : Nat} (H : spec_l04Copy k p54 = some r) (hr57 : Rd (Kd.slice (Kd.int .i64)) I0 A55 c56 p54.Items) :
    Meets Try.prog 28 ([.agg #[.slice A55 p54.Items.length c56, .int .i64 p54.At]] : List Value).toArray I0 [] (fun v J M => ∃ (A_1 : Option Addr) (c_2 : Nat) (s_3 : Seg), v = .agg #[.slice A_1 r.Items.length c_2, .int .i64 r.At] ∧ M = [s_3] ∧ DOwn (DK.sl (Kd.int .i64) 2) 25 J A_1 c_2 r.Items s_3) := by
  have hle := ImmLe.refl I0
  unfold spec_l04Copy at H
  refine fn_intro (fn := Try.f28) 9 Try.func28 rfl rfl rfl (fun E Fs => ?_)
  refine at_seq ?_
  refine at_ops [0, 1] rfl ?_
  refine at_eff rfl rfl ?_
  refine eff_box rfl rfl rfl #[.slice A55 p54.Items.length c56, .int .i64 p54.At] rfl (fun g58 => ?_)
  refine at_eff rfl rfl ?_
  obtain ⟨i_, hi_, hz_, _, _⟩ := info27
  refine eff_alloc rfl rfl hi_ hz_ #[.slice none ([] : List (List Int)).length 0, .int .i64 0] rfl (fun g59 => ?_)
  refine at_end ?_
  refine at_thn ?_
  refine at_seq ?_
  refine at_x hmo (fun w => w.cell? ⟨g58, 0, none⟩ = some (.slice A55 p54.Items.length c56) ∧ w.cell? ⟨g58, 1, none⟩ = some (.int .i64 p54.At)) [6] ?_
  refine at_xseg [0, 1, 3, 4] 3 (#[true, true, false, true, true, false, false]) rfl (by kernel_rfl) [(1, .slice A55 p54.Items.length c56), (4, .int .i64 p54.At)] [2, 4, 7] (L2 := [(2, .pointer (some ⟨g59, 0, none⟩)), (4, .slice A55 p54.Items.length c56), (7, .int .i64 p54.At)]) (obs := [fun w => w.cell? ⟨g58, 0, none⟩ = some (.slice A55 p54.Items.length c56), fun w => w.cell? ⟨g58, 1, none⟩ = some (.int .i64 p54.At)]) (by kernel_rfl) (by kernel_rfl) (by kernel_rfl) (.inr fun w hs => ⟨hs.var (k := 1) rfl 0 rfl, hs.var (k := 1) rfl 1 rfl⟩) (fun w hS => ⟨hS.1, hS.2⟩) (fun w hs => ⟨hs.var (k := 1) rfl 0 rfl, hs.var (k := 1) rfl 1 rfl⟩) ?_
  refine at_x1 2 2 (#[true, true, true, true, true, false, false]) rfl (by kernel_rfl) (by kernel_rfl) rfl rfl ?_
  obtain ⟨b4, H60, H⟩ := bind_some H
  have hm_ := spec_l04CopyAll.calls (I0 := I0) H60 hr57
  refine eff_call rfl rfl ok30 rfl rfl (show Meets Try.prog 30 ([.slice A55 p54.Items.length c56] : List Value).toArray _ [] _ from hm_) (Mr := ([(g59, .cells #[.slice none ([] : List (List Int)).length 0, .int .i64 0] 27 (0, 0))] :: [(g58, .cells #[.slice A55 p54.Items.length c56, .int .i64 p54.At] 27 (0, 0))] :: Fs)) (List.Perm.refl _) (fun v61 J62 M63 hq64 hJ65 => ?_)
  replace hle := hle.trans hJ65
  replace hr57 := hr57.mono hJ65
  obtain ⟨A66, c67, s68, rfl, rfl, ho69⟩ := hq64
  refine at_xS (fun w hs => ⟨hs.var (k := 2) rfl 0 rfl, hs.var (k := 2) rfl 1 rfl⟩) ?_
  refine at_xseg [5] 1 (#[true, true, true, true, true, true, false]) rfl (by kernel_rfl) [] [2, 8] (L2 := [(2, .pointer (some ⟨g59, 0, none⟩)), (8, .agg #[.slice A66 b4.length c67, .int .i64 p54.At])]) (obs := []) (by kernel_rfl) (by kernel_rfl) (by kernel_rfl) (.inr fun w hs => ⟨hs.var (k := 2) rfl 0 rfl, hs.var (k := 2) rfl 1 rfl⟩) (fun w hS => trivial) (fun w hs => trivial) ?_
  refine at_x1 0 6 (#[true, true, true, true, true, true, true]) rfl (by kernel_rfl) (by kernel_rfl) rfl rfl ?_
  refine eff_store 1 rfl rfl rfl rfl rfl rfl (.inl (Nat.le_refl _)) rfl (Nat.le_of_ble_eq_true (by kernel_rfl)) rfl ?_
  refine at_xX (by kernel_rfl) ?_
  refine at_xend (by kernel_rfl) ?_
  refine at_thn ?_
  refine at_ret ?_
  obtain rfl := Option.some.inj H
  refine at_drop (k := 2) rfl rfl ?_
  refine at_done (vs := [.agg #[.slice A66 b4.length c67, .int .i64 p54.At]]) (obs := [fun w => CellsAt w ⟨g59, 0, none⟩ [.slice A66 b4.length c67, .int .i64 p54.At] 0]) (.inl rfl) [.cell 2 27] [(2, .agg #[.slice A66 b4.length c67, .int .i64 p54.At])] rfl (by kernel_rfl) (fun w hs => cellsV (k := 1) hs rfl _ 0 (Nat.le_of_ble_eq_true (by kernel_rfl)) rfl) (fun w hs => ⟨_, _, [s68], rfl, ⟨A66, c67, s68, rfl, rfl, ho69⟩, hle, (hs.tail (perm_at (k := 1) rfl))⟩)
end Go.Proofs.Ytabdhegmepaeiaa
