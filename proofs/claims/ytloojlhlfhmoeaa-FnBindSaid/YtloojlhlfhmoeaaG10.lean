import Derived.Test.YtloojlhlfhmoeaaG9
namespace Go.Proofs.Ytloojlhlfhmoeaa
open Go Eng
set_option linter.unusedVariables false
set_option linter.unusedSimpArgs false
/-! ### loop.example/g00146/laws.FnBind: function 3 -/
mutual
def laws_FnBind_l2 : Nat → Int → ((List T_impl_Key) × T_impl_Key) → (List T_impl_Key) → (List T_impl_Key) → Option Bool
  | 0, _, _, _, _ => none
  | k + 1, x1446, b1, b2, b3 => if x1446 < (b3.length : Int) then (if 0 ≤ x1446 then (if x1446 < (b2.length : Int) then (if ((((rdA z_impl_Key b3 x1446).Map) == ((rdA z_impl_Key b2 x1446).Map)) && ((((rdA z_impl_Key b3 x1446).Keys) == ((rdA z_impl_Key b2 x1446).Keys)) && ((((rdA z_impl_Key b3 x1446).Name) == ((rdA z_impl_Key b2 x1446).Name)) && true))) = true then (laws_FnBind_l2 k (IntKind.i64.wrap (x1446 + 1)) b1 b2 b3) else (some false)) else none) else none) else (laws_FnBind_j0 k b1 b2 b3)
def laws_FnBind_j0 : Nat → ((List T_impl_Key) × T_impl_Key) → (List T_impl_Key) → (List T_impl_Key) → Option Bool
  | 0, _, _, _ => none
  | k + 1, b1, b2, b3 => laws_FnBind_l1 k false 0 b1 b2 b3
def laws_FnBind_l1 : Nat → Bool → Int → ((List T_impl_Key) × T_impl_Key) → (List T_impl_Key) → (List T_impl_Key) → Option Bool
  | 0, _, _, _, _, _ => none
  | k + 1, x1435, x1436, b1, b2, b3 => if x1436 < (b2.length : Int) then (if x1435 = true then (laws_FnBind_l1 k true (IntKind.i64.wrap (x1436 + 1)) b1 b2 b3) else (if 0 ≤ x1436 then (laws_FnBind_l1 k ((((rdA z_impl_Key b2 x1436).Map) == b1.2.Map) && ((((rdA z_impl_Key b2 x1436).Keys) == b1.2.Keys) && ((((rdA z_impl_Key b2 x1436).Name) == b1.2.Name) && true))) (IntKind.i64.wrap (x1436 + 1)) b1 b2 b3) else none)) else (laws_FnBind_j1 k x1435 b1 b2 b3)
def laws_FnBind_j1 : Nat → Bool → ((List T_impl_Key) × T_impl_Key) → (List T_impl_Key) → (List T_impl_Key) → Option Bool
  | 0, _, _, _, _ => none
  | k + 1, x257, b1, b2, b3 => if x257 = true then ((spec_KeysRight k b2).bind fun b4 => (if b4 = true then (if ([] : List T_impl_Key).length + b3.length ≤ 3518437208883 then ((impl_KeyLook k (([] : List T_impl_Key) ++ b3) b1.2.Map b1.2.Keys).bind fun b5 => (if ((b5.Kind == 3) && ((b5.Name == b1.2.Name) && ((b5.Used == (b1.2.Keys.length : Int)) && true))) = true then (laws_FnBind_j3 k b1 b3) else (if b5.Kind = 2 then (laws_FnBind_j3 k b1 b3) else (some false)))) else none) else (some true))) else (some true)
def laws_FnBind_j3 : Nat → ((List T_impl_Key) × T_impl_Key) → (List T_impl_Key) → Option Bool
  | 0, _, _ => none
  | k + 1, b1, b3 => (impl_KeyDrop k (([] : List T_impl_Key) ++ b3) b1.2.Map b1.2.Keys).bind fun b6 => (laws_FnBind_l0 k 0 b1 b3 b6)
def laws_FnBind_l0 : Nat → Int → ((List T_impl_Key) × T_impl_Key) → (List T_impl_Key) → (List T_impl_Key) → Option Bool
  | 0, _, _, _, _ => none
  | k + 1, x1416, b1, b3, b6 => if x1416 < (b6.length : Int) then (if 0 ≤ x1416 then (if ((rdA z_impl_Key b6 x1416).Map) = b1.2.Map then (if ((rdA z_impl_Key b6 x1416).Keys) = b1.2.Keys then (some false) else (laws_FnBind_l0 k (IntKind.i64.wrap (x1416 + 1)) b1 b3 b6)) else (laws_FnBind_l0 k (IntKind.i64.wrap (x1416 + 1)) b1 b3 b6)) else none) else (laws_FnBind_j4 k b3 b6)
def laws_FnBind_j4 : Nat → (List T_impl_Key) → (List T_impl_Key) → Option Bool
  | 0, _, _ => none
  | k + 1, b3, b6 => if (b6.length : Int) = (IntKind.i64.wrap ((b3.length : Int) - 1)) then (if ([] : List T_impl_Key).length + b6.length ≤ 3518437208883 then ((impl_KeysRight k (([] : List T_impl_Key) ++ b6)).bind fun b7 => (some b7)) else none) else (some false)
end
def laws_FnBind (k : Nat) (p1 : List Int) : Option Bool := if (p1.length : Int) > 1048576 then (some true) else ((spec_DrawKeyBind k p1).bind fun b1 => ((spec_KeyBind k b1.1 b1.2).bind fun b2 => (if ([] : List T_impl_Key).length + b1.1.length ≤ 3518437208883 then ((impl_KeyBind k (([] : List T_impl_Key) ++ b1.1) b1.2).bind fun b3 => (if (b3.length : Int) = (b2.length : Int) then (laws_FnBind_l2 k 0 b1 b2 b3) else (some false))) else none)))
set_option maxHeartbeats 4000000 in
set_option maxRecDepth 100000 in
theorem laws_FnBind.calls {k : Nat} {p1 : List Int} {r : Bool} {I0 : Imm} {A2 : Option Addr} {c3 : Nat} (H : laws_FnBind k p1 = some r) (hr4 : Rd (Kd.int .u8) I0 A2 c3 p1) :
    Meets Try.prog 3 ([.slice A2 p1.length c3] : List Value).toArray I0 [] (fun v J M => v = .bool r ∧ M = []) := by
  have hle := ImmLe.refl I0
  unfold laws_FnBind at H
  refine fn_intro (fn := Try.f3) 136 Try.func3 rfl rfl rfl (fun E Fs => ?_)
  refine at_seq ?_
  refine at_reg [] [0] (L2 := [(0, .slice A2 p1.length c3)]) (obs := []) (by kernel_rfl) ?_ ?_
  · intro w hs; exact trivial
  refine at_thn ?_
  refine at_seq ?_
  refine at_seq ?_
  refine at_reg [] [0, 15] (L2 := [(0, .slice A2 p1.length c3), (15, .bool (decide ((p1.length : Int) > 1048576)))]) (obs := []) (by kernel_rfl) ?_ ?_
  · intro w hs; exact trivial
  refine at_thn ?_
  by_cases h5 : (p1.length : Int) > 1048576
  · rw [if_pos h5] at H
    refine at_cond_t rfl (decide_eq_true h5) ?_
    refine at_seq ?_
    refine at_reg [] [2] (L2 := [(2, .bool true)]) (obs := []) (by kernel_rfl) ?_ ?_
    · intro w hs; exact trivial
    refine at_thn ?_
    refine at_ret ?_
    refine at_then_ret ?_
    obtain rfl := Option.some.inj H
    refine at_done (vs := [.bool true]) (obs := []) (.inl rfl) [.tmp 2] [] rfl (by kernel_rfl) (fun w hs => trivial) (fun w hs => ⟨_, _, [], rfl, ⟨rfl, rfl⟩, hle, hs⟩)
  · rw [if_neg h5] at H
    refine at_cond_f rfl (decide_eq_false h5) ?_
    refine at_skip ?_
    refine at_thn ?_
    refine at_seq ?_
    refine at_ops [0, 1, 2, 3, 4, 5, 6, 7] rfl ?_
    refine at_seg [0] [1, 2, 3, 4, 5, 6, 7] rfl [] [17] (L2 := [(17, .slice A2 p1.length c3)]) (obs := []) (by kernel_rfl) ?_ ?_
    · intro w hs; exact trivial
    refine at_eff rfl rfl ?_
    obtain ⟨b1, H6, H⟩ := bind_some H
    have hm_ := spec_DrawKeyBind.calls (I0 := I0) H6 hr4
    refine eff_call rfl rfl ok4 rfl rfl (show Meets Try.prog 4 ([.slice A2 p1.length c3] : List Value).toArray _ [] _ from hm_) (Mr := (Fs)) (List.Perm.refl _) (fun v7 J8 M9 hq10 hJ11 => ?_)
    replace hle := hle.trans hJ11
    replace hr4 := hr4.mono hJ11
    obtain ⟨A12, c13, s14, rfl, rfl, ho15⟩ := hq10
    refine at_seg [2, 3, 4] [5, 6, 7] rfl [] [19, 20] (L2 := [(19, .slice A12 b1.1.length c13), (20, .agg #[.int .i64 b1.2.Map, str b1.2.Keys, str b1.2.Name])]) (obs := []) (by kernel_rfl) ?_ ?_
    · intro w hs; exact trivial
    refine at_eff rfl rfl ?_
    obtain ⟨i_, hi_, hz_, _, _⟩ := info25
    refine eff_alloc rfl rfl hi_ hz_ #[.int .i64 0, str ([] : List UInt8), str ([] : List UInt8)] rfl (fun g16 => ?_)
    refine at_seg [6] [7] rfl [] [3, 4, 20] (L2 := [(3, .slice A12 b1.1.length c13), (4, .pointer (some ⟨g16, 0, none⟩)), (20, .agg #[.int .i64 b1.2.Map, str b1.2.Keys, str b1.2.Name])]) (obs := []) (by kernel_rfl) ?_ ?_
    · intro w hs; exact trivial
    refine at_eff rfl rfl ?_
    refine eff_store 0 rfl rfl rfl rfl rfl rfl (.inl (Nat.le_refl _)) rfl (Nat.le_of_ble_eq_true (by kernel_rfl)) rfl ?_
    refine at_end ?_
    refine at_thn ?_
    refine at_seq ?_
    refine at_ops [0, 1, 2, 3] rfl ?_
    refine at_seg [0, 1] [2, 3] rfl [(1, .agg #[.int .i64 b1.2.Map, str b1.2.Keys, str b1.2.Name])] [3, 4, 21, 22] (L2 := [(3, .slice A12 b1.1.length c13), (4, .pointer (some ⟨g16, 0, none⟩)), (21, .slice A12 b1.1.length c13), (22, .agg #[.int .i64 b1.2.Map, str b1.2.Keys, str b1.2.Name])]) (obs := [fun w => CellsAt w ⟨g16, 0, none⟩ [.int .i64 b1.2.Map, str b1.2.Keys, str b1.2.Name] 0]) (by kernel_rfl) ?_ ?_
    · intro w hs; exact cellsV (k := 0) hs rfl _ 0 (Nat.le_of_ble_eq_true (by kernel_rfl)) rfl
    refine at_eff rfl rfl ?_
    refine at_freeze (k := 1) rfl rfl (fun J17 hJ18 hin19 => ?_)
    replace hle := hle.trans hJ18
    replace ho15 := ho15.mono hJ18
    have hr20 := ho15.rd (ImmLe.refl _) hin19
    obtain ⟨b2, H21, H⟩ := bind_some H
    have hm_ := spec_KeyBind.calls (I0 := J17) H21 hr20
    refine eff_call rfl rfl ok5 rfl rfl (show Meets Try.prog 5 ([.slice A12 b1.1.length c13, .agg #[.int .i64 b1.2.Map, str b1.2.Keys, str b1.2.Name]] : List Value).toArray _ [] _ from hm_) (Mr := ([(g16, .cells #[.int .i64 b1.2.Map, str b1.2.Keys, str b1.2.Name] 25 (0, 0))] :: Fs)) (List.Perm.refl _) (fun v22 J23 M24 hq25 hJ26 => ?_)
    replace hle := hle.trans hJ26
    replace hr20 := hr20.mono hJ26
    obtain ⟨A27, c28, s29, rfl, rfl, ho30⟩ := hq25
    refine at_seg [3] [] rfl [] [3, 4, 5] (L2 := [(3, .slice A12 b1.1.length c13), (4, .pointer (some ⟨g16, 0, none⟩)), (5, .slice A27 b2.length c28)]) (obs := []) (by kernel_rfl) ?_ ?_
    · intro w hs; exact trivial
    refine at_end ?_
    refine at_thn ?_
    refine at_seq ?_
    refine at_x hmo (fun w => CellsAt w ⟨g16, 0, none⟩ [.int .i64 b1.2.Map, str b1.2.Keys, str b1.2.Name] 0) [] ?_
    refine at_xseg [1, 3] 4 (#[false, true, false, true, false, false]) rfl (by kernel_rfl) [(3, .agg #[.int .i64 b1.2.Map, str b1.2.Keys, str b1.2.Name])] [4, 5, 25, 27] (L2 := [(4, .pointer (some ⟨g16, 0, none⟩)), (5, .slice A27 b2.length c28), (25, .slice A12 b1.1.length c13), (27, .agg #[.int .i64 b1.2.Map, str b1.2.Keys, str b1.2.Name])]) (obs := [fun w => CellsAt w ⟨g16, 0, none⟩ [.int .i64 b1.2.Map, str b1.2.Keys, str b1.2.Name] 0]) (by kernel_rfl) (by kernel_rfl) (by kernel_rfl) (.inr fun w hs => cellsV (k := 1) hs rfl _ 0 (Nat.le_of_ble_eq_true (by kernel_rfl)) rfl) (fun w hS => hS) (fun w hs => cellsV (k := 1) hs rfl _ 0 (Nat.le_of_ble_eq_true (by kernel_rfl)) rfl) ?_
    refine at_x1 3 0 (#[true, true, false, true, false, false]) rfl (by kernel_rfl) (by kernel_rfl) rfl rfl ?_
    refine eff_buildSlice (e := 25) (cells := #[]) ([] : List T_impl_Key).length rfl rfl rfl (by kernel_rfl) (fun g31 => ?_)
    have ho32 := own_lit (K := k_impl_Key) (e := 25) (I := J23) (xs := ([] : List T_impl_Key)) (css := []) (cells := #[]) (b := g31) trivial rfl
    refine at_xS (fun w hs => cellsV (k := 2) hs rfl _ 0 (Nat.le_of_ble_eq_true (by kernel_rfl)) rfl) ?_
    refine at_x1 2 2 (#[true, true, true, true, false, false]) rfl (by kernel_rfl) (by kernel_rfl) rfl rfl ?_
    obtain ⟨h33, H⟩ := ite_some H
    obtain ⟨i_, hi_, hz_, hs_, hb_⟩ := info25
    refine eff_append (K := k_impl_Key) (xs := ([] : List T_impl_Key)) (ys := b1.1) 0 rfl rfl rfl rfl rfl und23 und23 hi_ hz_ hs_ rfl rfl rfl ho32 rfl (fun w hs => hr20.rowAt hs) (by rw [hb_]; omega) (by omega) (fun A34 c35 s36 ho37 => ?_)
    refine at_xS (fun w hs => cellsV (k := 2) hs rfl _ 0 (Nat.le_of_ble_eq_true (by kernel_rfl)) rfl) ?_
    refine at_x1 1 4 (#[true, true, true, true, true, false]) rfl (by kernel_rfl) (by kernel_rfl) rfl rfl ?_
    refine at_freeze (k := 0) rfl rfl (fun J38 hJ39 hin40 => ?_)
    replace hle := hle.trans hJ39
    replace ho30 := ho30.mono hJ39
    replace ho37 := ho37.mono hJ39
    replace hr20 := hr20.mono hJ39
    have hr41 := ho37.rd (ImmLe.refl _) hin40
    obtain ⟨b3, H42, H⟩ := bind_some H
    have hm_ := impl_KeyBind.calls (I0 := J38) H42 hr41
    refine eff_call rfl rfl ok6 rfl rfl (show Meets Try.prog 6 ([.slice A34 (([] : List T_impl_Key) ++ b1.1).length c35, .agg #[.int .i64 b1.2.Map, str b1.2.Keys, str b1.2.Name]] : List Value).toArray _ [] _ from hm_) (Mr := (s29 :: [(g16, .cells #[.int .i64 b1.2.Map, str b1.2.Keys, str b1.2.Name] 25 (0, 0))] :: Fs)) (List.Perm.refl _) (fun v43 J44 M45 hq46 hJ47 => ?_)
    replace hle := hle.trans hJ47
    replace ho30 := ho30.mono hJ47
    replace hr20 := hr20.mono hJ47
    replace hr41 := hr41.mono hJ47
    obtain ⟨A48, c49, s50, rfl, rfl, ho51⟩ := hq46
    refine at_xS (fun w hs => cellsV (k := 2) hs rfl _ 0 (Nat.le_of_ble_eq_true (by kernel_rfl)) rfl) ?_
    refine at_xseg [5] 0 (#[true, true, true, true, true, true]) rfl (by kernel_rfl) [] [4, 5, 6] (L2 := [(4, .pointer (some ⟨g16, 0, none⟩)), (5, .slice A27 b2.length c28), (6, .slice A48 b3.length c49)]) (obs := []) (by kernel_rfl) (by kernel_rfl) (by kernel_rfl) (.inr fun w hs => cellsV (k := 2) hs rfl _ 0 (Nat.le_of_ble_eq_true (by kernel_rfl)) rfl) (fun w hS => trivial) (fun w hs => trivial) ?_
    refine at_xend (by kernel_rfl) ?_
    refine at_thn ?_
    refine at_seq ?_
    refine at_seq ?_
    refine at_reg [] [4, 5, 6, 33] (L2 := [(4, .pointer (some ⟨g16, 0, none⟩)), (5, .slice A27 b2.length c28), (6, .slice A48 b3.length c49), (33, .bool ((b3.length : Int) != (b2.length : Int)))]) (obs := []) (by kernel_rfl) ?_ ?_
    · intro w hs; exact trivial
    refine at_thn ?_
    by_cases h52 : (b3.length : Int) = (b2.length : Int)
    · rw [if_pos h52] at H
      refine at_cond_f rfl (bne_eq_false_iff_eq.2 h52) ?_
      refine at_skip ?_
      refine at_thn ?_
      refine at_join (fun L I Ms => ∃ (k154 : Nat), L = [(4, .pointer (some ⟨g16, 0, none⟩)), (5, .slice A27 b2.length c28), (6, .slice A48 b3.length c49)] ∧ Ms = ([(g16, .cells #[.int .i64 b1.2.Map, str b1.2.Keys, str b1.2.Name] 25 (0, 0))] :: s29 :: s50 :: Fs) ∧ laws_FnBind_j0 k154 b1 b2 b3 = some r ∧ ImmLe I0 I ∧ k154 ≤ k ∧ Own k_impl_Key 25 I A27 c28 b2 s29 ∧ Own k_impl_Key 25 I A48 c49 b3 s50) ?_ ?_
      · clear H hle ho30 ho51
        intro L I Ms h_; obtain ⟨k154, hL_, hM_, H, hle, hk155, ho30, ho51⟩ := h_; rw [hL_, hM_]; clear hL_ hM_ L Ms
        rcases k154 with _ | k154
        · exact (no_none H).elim
        rw [laws_FnBind_j0] at H
        refine at_seq ?_
        refine at_reg [] [4, 5, 6, 8] (L2 := [(4, .pointer (some ⟨g16, 0, none⟩)), (5, .slice A27 b2.length c28), (6, .slice A48 b3.length c49), (8, .bool false)]) (obs := []) (by kernel_rfl) ?_ ?_
        · intro w hs; exact trivial
        refine at_thn ?_
        refine at_join (fun L I Ms => ∃ (k258 : Nat), ∃ (x257 : Bool), L = [(4, .pointer (some ⟨g16, 0, none⟩)), (5, .slice A27 b2.length c28), (6, .slice A48 b3.length c49), (8, .bool x257)] ∧ Ms = ([(g16, .cells #[.int .i64 b1.2.Map, str b1.2.Keys, str b1.2.Name] 25 (0, 0))] :: s29 :: s50 :: Fs) ∧ laws_FnBind_j1 k258 x257 b1 b2 b3 = some r ∧ ImmLe I0 I ∧ k258 ≤ k154 ∧ Own k_impl_Key 25 I A27 c28 b2 s29 ∧ Own k_impl_Key 25 I A48 c49 b3 s50) ?_ ?_
        · clear H hle ho30 ho51
          intro L I Ms h_; obtain ⟨k258, x257, hL_, hM_, H, hle, hk259, ho30, ho51⟩ := h_; rw [hL_, hM_]; clear hL_ hM_ L Ms
          rcases k258 with _ | k258
          · exact (no_none H).elim
          rw [laws_FnBind_j1] at H
          refine at_seq ?_
          refine at_seq ?_
          refine at_ops [0, 1, 2, 3, 4, 5, 6] rfl ?_
          by_cases h260 : x257 = true
          · rw [if_pos h260] at H
            refine at_seg [0, 1, 2, 3] [4, 5, 6] rfl [(2, .bool false)] [4, 6, 66, 67] (L2 := [(4, .pointer (some ⟨g16, 0, none⟩)), (6, .slice A48 b3.length c49), (66, .bool false), (67, .slice A27 b2.length c28)]) (obs := [fun _ => (.bool (!x257) : Value) = .bool false]) (by kernel_rfl) ?_ ?_
            · intro w hs; exact congrArg Value.bool (not_ff (h260))
            refine at_eff rfl rfl ?_
            obtain ⟨b4, H261, H⟩ := bind_some H
            refine eff_read rfl rfl (rv := .bool b4) (Ms' := (s29 :: [(g16, .cells #[.int .i64 b1.2.Map, str b1.2.Keys, str b1.2.Name] 25 (0, 0))] :: s50 :: Fs)) ok7 rfl rfl ?_ ?_
            · refine Reads.lend (k := 1) rfl (fun J262 hJ263 hin264 => ?_)
              exact Reads.of_meets (Mr := ([(g16, .cells #[.int .i64 b1.2.Map, str b1.2.Keys, str b1.2.Name] 25 (0, 0))] :: s50 :: Fs)) (show Meets Try.prog 7 ([.slice A27 b2.length c28] : List Value).toArray J262 [] _ from spec_KeysRight.calls (I0 := J262) H261 (ho30.rd hJ263 hin264)) (List.Perm.refl _)
            refine at_seg [5, 6] [] rfl [] [4, 6, 70] (L2 := [(4, .pointer (some ⟨g16, 0, none⟩)), (6, .slice A48 b3.length c49), (70, .bool (!b4))]) (obs := []) (by kernel_rfl) ?_ ?_
            · intro w hs; exact trivial
            refine at_end ?_
            refine at_thn ?_
            by_cases h265 : b4 = true
            · rw [if_pos h265] at H
              refine at_cond_f rfl (not_ff (h265)) ?_
              refine at_skip ?_
              refine at_thn ?_
              refine at_seq ?_
              refine at_x hmo (fun w => w.cell? ⟨g16, 0, none⟩ = some (.int .i64 b1.2.Map) ∧ w.cell? ⟨g16, 1, none⟩ = some (str b1.2.Keys)) [9] ?_
              refine at_xseg [1, 3, 4, 5, 6] 5 (#[false, true, false, true, true, true, true, false, false, false]) rfl (by kernel_rfl) [(4, .int .i64 b1.2.Map), (6, str b1.2.Keys)] [4, 6, 72, 75, 77] (L2 := [(4, .pointer (some ⟨g16, 0, none⟩)), (6, .slice A48 b3.length c49), (72, .slice A48 b3.length c49), (75, .int .i64 b1.2.Map), (77, str b1.2.Keys)]) (obs := [fun w => w.cell? ⟨g16, 0, none⟩ = some (.int .i64 b1.2.Map), fun w => w.cell? ⟨g16, 1, none⟩ = some (str b1.2.Keys)]) (by kernel_rfl) (by kernel_rfl) (by kernel_rfl) (.inr fun w hs => ⟨hs.var (k := 1) rfl 0 rfl, hs.var (k := 1) rfl 1 rfl⟩) (fun w hS => ⟨hS.1, hS.2⟩) (fun w hs => ⟨hs.var (k := 1) rfl 0 rfl, hs.var (k := 1) rfl 1 rfl⟩) ?_
              refine at_xall (fuel := 4) [0, 8] (by kernel_rfl) (by simp) (List.forall_mem_cons.2 ⟨?_, (List.forall_mem_cons.2 ⟨?_, fun _ h => nomatch h⟩)⟩)
              · refine at_xone (#[true, true, false, true, true, true, true, false, false, false]) (by kernel_rfl) rfl rfl ?_
                refine eff_buildSlice (e := 25) (cells := #[]) ([] : List T_impl_Key).length rfl rfl rfl (by kernel_rfl) (fun g368 => ?_)
                have ho369 := own_lit (K := k_impl_Key) (e := 25) (I := I) (xs := ([] : List T_impl_Key)) (css := []) (cells := #[]) (b := g368) trivial rfl
                refine at_xS (fun w hs => ⟨hs.var (k := 2) rfl 0 rfl, hs.var (k := 2) rfl 1 rfl⟩) ?_
                refine at_xall (fuel := 3) [2, 8] (by kernel_rfl) (by simp) (List.forall_mem_cons.2 ⟨?_, (List.forall_mem_cons.2 ⟨?_, fun _ h => nomatch h⟩)⟩)
                · refine at_xone (#[true, true, true, true, true, true, true, false, false, false]) (by kernel_rfl) rfl rfl ?_
                  obtain ⟨h370, H⟩ := ite_some H
                  obtain ⟨i_, hi_, hz_, hs_, hb_⟩ := info25
                  refine eff_append (K := k_impl_Key) (xs := ([] : List T_impl_Key)) (ys := b3) 0 rfl rfl rfl rfl rfl und23 und23 hi_ hz_ hs_ rfl rfl rfl ho369 rfl (fun w hs => ho51.rowAt (k := 3) hs rfl) (by rw [hb_]; omega) (by omega) (fun A371 c372 s373 ho374 => ?_)
                  refine at_xS (fun w hs => ⟨hs.var (k := 2) rfl 0 rfl, hs.var (k := 2) rfl 1 rfl⟩) ?_
                  refine at_xall (fuel := 2) [7, 8] (by kernel_rfl) (by simp) (List.forall_mem_cons.2 ⟨?_, (List.forall_mem_cons.2 ⟨?_, fun _ h => nomatch h⟩)⟩)
                  · refine at_xone (#[true, true, true, true, true, true, true, true, false, false]) (by kernel_rfl) rfl rfl ?_
                    obtain ⟨b5, H375, H⟩ := bind_some H
                    refine eff_read rfl rfl (rv := .agg #[.int .i64 b5.Kind, str b5.Name, .int .i64 b5.Used]) (Ms' := (s373 :: s29 :: [(g16, .cells #[.int .i64 b1.2.Map, str b1.2.Keys, str b1.2.Name] 25 (0, 0))] :: s50 :: Fs)) ok8 rfl rfl ?_ ?_
                    · refine Reads.lend (k := 0) rfl (fun J376 hJ377 hin378 => ?_)
                      exact Reads.of_meets (Mr := (s29 :: [(g16, .cells #[.int .i64 b1.2.Map, str b1.2.Keys, str b1.2.Name] 25 (0, 0))] :: s50 :: Fs)) (show Meets Try.prog 8 ([.slice A371 (([] : List T_impl_Key) ++ b3).length c372, .int .i64 b1.2.Map, str b1.2.Keys] : List Value).toArray J376 [] _ from impl_KeyLook.calls (I0 := J376) H375 (ho374.rd hJ377 hin378)) (List.Perm.refl _)
                    refine at_xS (fun w hs => ⟨hs.var (k := 2) rfl 0 rfl, hs.var (k := 2) rfl 1 rfl⟩) ?_
                    refine at_x1 1 8 (#[true, true, true, true, true, true, true, true, true, false]) rfl (by kernel_rfl) (by kernel_rfl) rfl rfl ?_
                    obtain ⟨i_, hi_, hz_, _, _⟩ := info31
                    refine eff_alloc rfl rfl hi_ hz_ #[.int .i64 0, str ([] : List UInt8), .int .i64 0] rfl (fun g379 => ?_)
                    refine at_xS (fun w hs => ⟨hs.var (k := 3) rfl 0 rfl, hs.var (k := 3) rfl 1 rfl⟩) ?_
                    refine at_x1 0 9 (#[true, true, true, true, true, true, true, true, true, true]) rfl (by kernel_rfl) (by kernel_rfl) rfl rfl ?_
                    refine eff_store 0 rfl rfl rfl rfl rfl rfl (.inl (Nat.le_refl _)) rfl (Nat.le_of_ble_eq_true (by kernel_rfl)) rfl ?_
                    refine at_xX (by kernel_rfl) ?_
                    refine at_xend (by kernel_rfl) ?_
                    refine at_thn ?_
                    refine at_join (fun L I Ms => ∃ (k481 : Nat), L = [(4, .pointer (some ⟨g16, 0, none⟩)), (6, .slice A48 b3.length c49)] ∧ Ms = ([(g16, .cells #[.int .i64 b1.2.Map, str b1.2.Keys, str b1.2.Name] 25 (0, 0))] :: s50 :: Fs) ∧ laws_FnBind_j3 k481 b1 b3 = some r ∧ ImmLe I0 I ∧ k481 ≤ k258 ∧ Own k_impl_Key 25 I A48 c49 b3 s50) ?_ ?_
                    · clear H hle ho374 ho51
                      intro L I Ms h_; obtain ⟨k481, hL_, hM_, H, hle, hk482, ho51⟩ := h_; rw [hL_, hM_]; clear hL_ hM_ L Ms
                      rcases k481 with _ | k481
                      · exact (no_none H).elim
                      rw [laws_FnBind_j3] at H
                      refine at_seq ?_
                      refine at_x hmo (fun w => w.cell? ⟨g16, 0, none⟩ = some (.int .i64 b1.2.Map) ∧ w.cell? ⟨g16, 1, none⟩ = some (str b1.2.Keys)) [] ?_
                      refine at_xseg [1, 3, 4, 5, 6] 4 (#[false, true, false, true, true, true, true, false, false]) rfl (by kernel_rfl) [(4, .int .i64 b1.2.Map), (6, str b1.2.Keys)] [4, 6, 93, 96, 98] (L2 := [(4, .pointer (some ⟨g16, 0, none⟩)), (6, .slice A48 b3.length c49), (93, .slice A48 b3.length c49), (96, .int .i64 b1.2.Map), (98, str b1.2.Keys)]) (obs := [fun w => w.cell? ⟨g16, 0, none⟩ = some (.int .i64 b1.2.Map), fun w => w.cell? ⟨g16, 1, none⟩ = some (str b1.2.Keys)]) (by kernel_rfl) (by kernel_rfl) (by kernel_rfl) (.inr fun w hs => ⟨hs.var (k := 0) rfl 0 rfl, hs.var (k := 0) rfl 1 rfl⟩) (fun w hS => ⟨hS.1, hS.2⟩) (fun w hs => ⟨hs.var (k := 0) rfl 0 rfl, hs.var (k := 0) rfl 1 rfl⟩) ?_
                      refine at_x1 3 0 (#[true, true, false, true, true, true, true, false, false]) rfl (by kernel_rfl) (by kernel_rfl) rfl rfl ?_
                      refine eff_buildSlice (e := 25) (cells := #[]) ([] : List T_impl_Key).length rfl rfl rfl (by kernel_rfl) (fun g483 => ?_)
                      have ho484 := own_lit (K := k_impl_Key) (e := 25) (I := I) (xs := ([] : List T_impl_Key)) (css := []) (cells := #[]) (b := g483) trivial rfl
                      refine at_xS (fun w hs => ⟨hs.var (k := 1) rfl 0 rfl, hs.var (k := 1) rfl 1 rfl⟩) ?_
                      refine at_x1 2 2 (#[true, true, true, true, true, true, true, false, false]) rfl (by kernel_rfl) (by kernel_rfl) rfl rfl ?_
                      obtain ⟨i_, hi_, hz_, hs_, hb_⟩ := info25
                      refine eff_append (K := k_impl_Key) (xs := ([] : List T_impl_Key)) (ys := b3) 0 rfl rfl rfl rfl rfl und23 und23 hi_ hz_ hs_ rfl rfl rfl ho484 rfl (fun w hs => ho51.rowAt (k := 2) hs rfl) (by rw [hb_]; omega) (by omega) (fun A485 c486 s487 ho488 => ?_)
                      refine at_xS (fun w hs => ⟨hs.var (k := 1) rfl 0 rfl, hs.var (k := 1) rfl 1 rfl⟩) ?_
                      refine at_x1 1 7 (#[true, true, true, true, true, true, true, true, false]) rfl (by kernel_rfl) (by kernel_rfl) rfl rfl ?_
                      refine at_freeze (k := 0) rfl rfl (fun J489 hJ490 hin491 => ?_)
                      replace hle := hle.trans hJ490
                      replace ho488 := ho488.mono hJ490
                      replace ho51 := ho51.mono hJ490
                      have hr492 := ho488.rd (ImmLe.refl _) hin491
                      obtain ⟨b6, H493, H⟩ := bind_some H
                      have hm_ := impl_KeyDrop.calls (I0 := J489) H493 hr492
                      refine eff_call rfl rfl ok9 rfl rfl (show Meets Try.prog 9 ([.slice A485 (([] : List T_impl_Key) ++ b3).length c486, .int .i64 b1.2.Map, str b1.2.Keys] : List Value).toArray _ [] _ from hm_) (Mr := ([(g16, .cells #[.int .i64 b1.2.Map, str b1.2.Keys, str b1.2.Name] 25 (0, 0))] :: s50 :: Fs)) (List.Perm.refl _) (fun v494 J495 M496 hq497 hJ498 => ?_)
                      replace hle := hle.trans hJ498
                      replace ho51 := ho51.mono hJ498
                      replace hr492 := hr492.mono hJ498
                      obtain ⟨A499, c500, s501, rfl, rfl, ho502⟩ := hq497
                      refine at_xS (fun w hs => ⟨hs.var (k := 1) rfl 0 rfl, hs.var (k := 1) rfl 1 rfl⟩) ?_
                      refine at_xseg [8] 0 (#[true, true, true, true, true, true, true, true, true]) rfl (by kernel_rfl) [] [4, 6, 11] (L2 := [(4, .pointer (some ⟨g16, 0, none⟩)), (6, .slice A48 b3.length c49), (11, .slice A499 b6.length c500)]) (obs := []) (by kernel_rfl) (by kernel_rfl) (by kernel_rfl) (.inr fun w hs => ⟨hs.var (k := 1) rfl 0 rfl, hs.var (k := 1) rfl 1 rfl⟩) (fun w hS => trivial) (fun w hs => trivial) ?_
                      refine at_xend (by kernel_rfl) ?_
                      refine at_thn ?_
                      refine at_join (fun L I Ms => ∃ (k604 : Nat), L = [(6, .slice A48 b3.length c49), (11, .slice A499 b6.length c500)] ∧ Ms = (s50 :: s501 :: Fs) ∧ laws_FnBind_j4 k604 b3 b6 = some r ∧ ImmLe I0 I ∧ k604 ≤ k481 ∧ Own k_impl_Key 25 I A499 c500 b6 s501 ∧ Own k_impl_Key 25 I A48 c49 b3 s50) ?_ ?_
                      · clear H hle ho502 ho51
                        intro L I Ms h_; obtain ⟨k604, hL_, hM_, H, hle, hk605, ho502, ho51⟩ := h_; rw [hL_, hM_]; clear hL_ hM_ L Ms
                        rcases k604 with _ | k604
                        · exact (no_none H).elim
                        rw [laws_FnBind_j4] at H
                        refine at_seq ?_
                        refine at_ops [0, 1, 2, 3, 4, 5, 6, 7, 8, 9, 10, 11, 12] rfl ?_
                        by_cases h606 : (b6.length : Int) = (IntKind.i64.wrap ((b3.length : Int) - 1))
                        · rw [if_pos h606] at H
                          refine at_seg [0, 1, 2, 3, 4, 5, 6] [7, 8, 9, 10, 11, 12] rfl [(6, .bool true)] [11, 130] (L2 := [(11, .slice A499 b6.length c500), (130, .bool true)]) (obs := [fun _ => (.bool ((b6.length : Int) == (IntKind.i64.wrap ((b3.length : Int) - 1))) : Value) = .bool true]) (by kernel_rfl) ?_ ?_
                          · intro w hs; exact congrArg Value.bool (beq_iff_eq.2 h606)
                          refine at_eff rfl rfl ?_
                          refine eff_buildSlice (e := 25) (cells := #[]) ([] : List T_impl_Key).length rfl rfl rfl (by kernel_rfl) (fun g607 => ?_)
                          have ho608 := own_lit (K := k_impl_Key) (e := 25) (I := I) (xs := ([] : List T_impl_Key)) (css := []) (cells := #[]) (b := g607) trivial rfl
                          refine at_seg [8] [9, 10, 11, 12] rfl [] [130, 131, 132] (L2 := [(130, .bool true), (131, .slice (some ⟨g607, 0, none⟩ : Option Addr) ([] : List T_impl_Key).length (([] : List T_impl_Key).length)), (132, .slice A499 b6.length c500)]) (obs := []) (by kernel_rfl) ?_ ?_
                          · intro w hs; exact trivial
                          refine at_eff rfl rfl ?_
                          obtain ⟨h609, H⟩ := ite_some H
                          obtain ⟨i_, hi_, hz_, hs_, hb_⟩ := info25
                          refine eff_append (K := k_impl_Key) (xs := ([] : List T_impl_Key)) (ys := b6) 0 rfl rfl rfl rfl rfl und23 und23 hi_ hz_ hs_ rfl rfl rfl ho608 rfl (fun w hs => ho502.rowAt (k := 2) hs rfl) (by rw [hb_]; omega) (by omega) (fun A610 c611 s612 ho613 => ?_)
                          refine at_eff rfl rfl ?_
                          obtain ⟨b7, H614, H⟩ := bind_some H
                          refine eff_read rfl rfl (rv := .bool b7) (Ms' := (s612 :: s50 :: s501 :: Fs)) ok10 rfl rfl ?_ ?_
                          · refine Reads.lend (k := 0) rfl (fun J615 hJ616 hin617 => ?_)
                            exact Reads.of_meets (Mr := (s50 :: s501 :: Fs)) (show Meets Try.prog 10 ([.slice A610 (([] : List T_impl_Key) ++ b6).length c611] : List Value).toArray J615 [] _ from impl_KeysRight.calls (I0 := J615) H614 (ho613.rd hJ616 hin617)) (List.Perm.refl _)
                          refine at_seg [11, 12] [] rfl [] [2] (L2 := [(2, .bool b7)]) (obs := []) (by kernel_rfl) ?_ ?_
                          · intro w hs; exact trivial
                          refine at_end ?_
                          refine at_thn ?_
                          refine at_ret ?_
                          obtain rfl := Option.some.inj H
                          refine at_drop (k := 0) rfl rfl ?_
                          refine at_drop (k := 0) rfl rfl ?_
                          refine at_drop (k := 0) rfl rfl ?_
                          refine at_done (vs := [.bool b7]) (obs := []) (.inl rfl) [.tmp 2] [] rfl (by kernel_rfl) (fun w hs => trivial) (fun w hs => ⟨_, _, [], rfl, ⟨rfl, rfl⟩, hle, hs⟩)
                        · rw [if_neg h606] at H
                          refine at_seg [0, 1, 2, 3, 4, 5, 6] [7, 8, 9, 10, 11, 12] rfl [(6, .bool false)] [11, 130] (L2 := [(11, .slice A499 b6.length c500), (130, .bool false)]) (obs := [fun _ => (.bool ((b6.length : Int) == (IntKind.i64.wrap ((b3.length : Int) - 1))) : Value) = .bool false]) (by kernel_rfl) ?_ ?_
                          · intro w hs; exact congrArg Value.bool (beq_eq_false_iff_ne.2 h606)
                          refine at_seg [7, 8] [9, 10, 11, 12] rfl [] [130, 131, 132] (L2 := [(130, .bool false), (131, undef), (132, undef)]) (obs := []) (by kernel_rfl) ?_ ?_
                          · intro w hs; exact trivial
                          refine at_seg [9] [10, 11, 12] rfl [] [130, 133] (L2 := [(130, .bool false), (133, undef)]) (obs := []) (by kernel_rfl) ?_ ?_
                          · intro w hs; exact trivial
                          refine at_seg [10, 11, 12] [] rfl [] [2] (L2 := [(2, .bool false)]) (obs := []) (by kernel_rfl) ?_ ?_
                          · intro w hs; exact trivial
                          refine at_end ?_
                          refine at_thn ?_
                          refine at_ret ?_
                          obtain rfl := Option.some.inj H
                          refine at_drop (k := 0) rfl rfl ?_
                          refine at_drop (k := 0) rfl rfl ?_
                          refine at_done (vs := [.bool false]) (obs := []) (.inl rfl) [.tmp 2] [] rfl (by kernel_rfl) (fun w hs => trivial) (fun w hs => ⟨_, _, [], rfl, ⟨rfl, rfl⟩, hle, hs⟩)
                      · intro Jn503
                        refine at_seq ?_
                        refine at_reg [] [4, 6, 11, 12] (L2 := [(4, .pointer (some ⟨g16, 0, none⟩)), (6, .slice A48 b3.length c49), (11, .slice A499 b6.length c500), (12, .int .i64 0)]) (obs := []) (by kernel_rfl) ?_ ?_
                        · intro w hs; exact trivial
                        refine at_thn ?_
                        refine at_block ?_
                        refine at_perm ((perm_at (k := 1) rfl).trans (((perm_at (k := 1) rfl).trans ((List.Perm.refl _).cons _)).cons _)) ?_
                        refine at_keep [4, 6, 11, 12] (L2 := [(4, .pointer (some ⟨g16, 0, none⟩)), (6, .slice A48 b3.length c49), (11, .slice A499 b6.length c500), (12, .int .i64 0)]) rfl ?_
                        refine at_loop (fun k619 L I Ms => ∃ (x618 : Int), L = [(4, .pointer (some ⟨g16, 0, none⟩)), (6, .slice A48 b3.length c49), (11, .slice A499 b6.length c500), (12, .int .i64 x618)] ∧ Ms = ([(g16, .cells #[.int .i64 b1.2.Map, str b1.2.Keys, str b1.2.Name] 25 (0, 0))] :: s50 :: s501 :: Fs) ∧ laws_FnBind_l0 k619 x618 b1 b3 b6 = some r ∧ ImmLe I0 I ∧ k619 ≤ k481 ∧ Own k_impl_Key 25 I A499 c500 b6 s501 ∧ Own k_impl_Key 25 I A48 c49 b3 s50) ?_ ?_ k481 ⟨0, rfl, rfl, H, hle, Nat.le_refl _, ho502, ho51⟩
                        · rintro L I Ms ⟨_, rfl, rfl, H, _⟩; exact no_none H
                        · clear H hle ho502 ho51
                          intro k619 ih620 L I Ms h_; obtain ⟨x618, hL_, hM_, H, hle, hk621, ho502, ho51⟩ := h_; rw [hL_, hM_]; clear hL_ hM_ L Ms
                          rw [laws_FnBind_l0] at H
                          refine at_seq ?_
                          refine at_seq ?_
                          refine at_reg [] [4, 6, 11, 12, 103] (L2 := [(4, .pointer (some ⟨g16, 0, none⟩)), (6, .slice A48 b3.length c49), (11, .slice A499 b6.length c500), (12, .int .i64 x618), (103, .bool (decide (x618 < (b6.length : Int))))]) (obs := []) (by kernel_rfl) ?_ ?_
                          · intro w hs; exact trivial
                          refine at_thn ?_
                          by_cases h622 : x618 < (b6.length : Int)
                          · rw [if_pos h622] at H
                            refine at_cond_t rfl (decide_eq_true h622) ?_
                            refine at_skip ?_
                            refine at_thn ?_
                            refine at_seq ?_
                            refine at_block ?_
                            refine at_seq ?_
                            obtain ⟨h623, H⟩ := ite_some H
                            by_cases h627 : ((rdA z_impl_Key b6 x618).Map) = b1.2.Map
                            · rw [if_pos h627] at H
                              obtain ⟨cs629, hz630, hc628⟩ := ho502.elem z_impl_Key x618 h623 h622
                              obtain rfl := hz630
                              refine at_regd hmo [(4, .int .i64 ((rdA z_impl_Key b6 x618).Map)), (6, .int .i64 b1.2.Map), (8, .bool true), (13, str ((rdA z_impl_Key b6 x618).Keys)), (15, str b1.2.Keys)] [4, 6, 11, 12, 123] (by kernel_rfl) (L2 := [(4, .pointer (some ⟨g16, 0, none⟩)), (6, .slice A48 b3.length c49), (11, .slice A499 b6.length c500), (12, .int .i64 x618), (123, .bool (((rdA z_impl_Key b6 x618).Keys) == b1.2.Keys))]) (obs := [fun _ => A499.isSome = true ∧ 0 ≤ x618 ∧ x618 < ((b6.length : Nat) : Int), fun w => w.cell? (((A499.getD ad0).add (x618.toNat * 3)).add 0) = some (.int .i64 ((rdA z_impl_Key b6 x618).Map)), fun w => w.cell? ⟨g16, 0, none⟩ = some (.int .i64 b1.2.Map), fun _ => (.bool (((rdA z_impl_Key b6 x618).Map) == b1.2.Map) : Value) = .bool true, fun _ => A499.isSome = true ∧ 0 ≤ x618 ∧ x618 < ((b6.length : Nat) : Int), fun w => w.cell? (((A499.getD ad0).add (x618.toNat * 3)).add 1) = some (str ((rdA z_impl_Key b6 x618).Keys)), fun w => w.cell? ⟨g16, 1, none⟩ = some (str b1.2.Keys)]) (by kernel_rfl) ?_ ?_
                              · intro w hs; exact ⟨⟨ho502.ne x618 h623 h622, h623, h622⟩, hc628 0 _ rfl hs (k := 2) rfl, hs.var (k := 0) rfl 0 rfl, congrArg Value.bool (beq_iff_eq.2 h627), ⟨ho502.ne x618 h623 h622, h623, h622⟩, hc628 1 _ rfl hs (k := 2) rfl, hs.var (k := 0) rfl 1 rfl⟩
                              refine at_thn ?_
                              by_cases h631 : ((rdA z_impl_Key b6 x618).Keys) = b1.2.Keys
                              · rw [if_pos h631] at H
                                refine at_cond_t rfl (beq_iff_eq.2 h631) ?_
                                refine at_seq ?_
                                refine at_reg [] [2] (L2 := [(2, .bool false)]) (obs := []) (by kernel_rfl) ?_ ?_
                                · intro w hs; exact trivial
                                refine at_thn ?_
                                refine at_ret ?_
                                refine at_in_ret ?_
                                refine at_then_ret ?_
                                refine at_then_ret ?_
                                refine at_in_ret ?_
                                refine at_then_ret ?_
                                obtain rfl := Option.some.inj H
                                refine at_drop (k := 0) rfl rfl ?_
                                refine at_drop (k := 0) rfl rfl ?_
                                refine at_drop (k := 0) rfl rfl ?_
                                refine at_done (vs := [.bool false]) (obs := []) (.inl rfl) [.tmp 2] [] rfl (by kernel_rfl) (fun w hs => trivial) (fun w hs => ⟨_, _, [], rfl, ⟨rfl, rfl⟩, hle, hs⟩)
                              · rw [if_neg h631] at H
                                refine at_cond_f rfl (beq_eq_false_iff_ne.2 h631) ?_
                                refine at_skip ?_
                                refine at_in_norm ?_
                                refine at_thn ?_
                                refine at_reg [] [4, 6, 11, 12] (L2 := [(4, .pointer (some ⟨g16, 0, none⟩)), (6, .slice A48 b3.length c49), (11, .slice A499 b6.length c500), (12, .int .i64 (IntKind.i64.wrap (x618 + 1)))]) (obs := []) (by kernel_rfl) ?_ ?_
                                · intro w hs; exact trivial
                                refine at_thn ?_
                                refine at_keep [4, 6, 11, 12] (L2 := [(4, .pointer (some ⟨g16, 0, none⟩)), (6, .slice A48 b3.length c49), (11, .slice A499 b6.length c500), (12, .int .i64 (IntKind.i64.wrap (x618 + 1)))]) rfl ?_
                                exact ih620 _ (by omega) _ _ _ ⟨IntKind.i64.wrap (x618 + 1), rfl, rfl, H, hle, by omega, ho502, ho51⟩
                            · rw [if_neg h627] at H
                              obtain ⟨cs633, hz634, hc632⟩ := ho502.elem z_impl_Key x618 h623 h622
                              obtain rfl := hz634
                              refine at_regd hmo [(4, .int .i64 ((rdA z_impl_Key b6 x618).Map)), (6, .int .i64 b1.2.Map), (8, .bool false)] [4, 6, 11, 12, 123] (by kernel_rfl) (L2 := [(4, .pointer (some ⟨g16, 0, none⟩)), (6, .slice A48 b3.length c49), (11, .slice A499 b6.length c500), (12, .int .i64 x618), (123, .bool false)]) (obs := [fun _ => A499.isSome = true ∧ 0 ≤ x618 ∧ x618 < ((b6.length : Nat) : Int), fun w => w.cell? (((A499.getD ad0).add (x618.toNat * 3)).add 0) = some (.int .i64 ((rdA z_impl_Key b6 x618).Map)), fun w => w.cell? ⟨g16, 0, none⟩ = some (.int .i64 b1.2.Map), fun _ => (.bool (((rdA z_impl_Key b6 x618).Map) == b1.2.Map) : Value) = .bool false]) (by kernel_rfl) ?_ ?_
                              · intro w hs; exact ⟨⟨ho502.ne x618 h623 h622, h623, h622⟩, hc632 0 _ rfl hs (k := 2) rfl, hs.var (k := 0) rfl 0 rfl, congrArg Value.bool (beq_eq_false_iff_ne.2 h627)⟩
                              refine at_thn ?_
                              refine at_cond_f rfl (rfl) ?_
                              refine at_skip ?_
                              refine at_in_norm ?_
                              refine at_thn ?_
                              refine at_reg [] [4, 6, 11, 12] (L2 := [(4, .pointer (some ⟨g16, 0, none⟩)), (6, .slice A48 b3.length c49), (11, .slice A499 b6.length c500), (12, .int .i64 (IntKind.i64.wrap (x618 + 1)))]) (obs := []) (by kernel_rfl) ?_ ?_
                              · intro w hs; exact trivial
                              refine at_thn ?_
                              refine at_keep [4, 6, 11, 12] (L2 := [(4, .pointer (some ⟨g16, 0, none⟩)), (6, .slice A48 b3.length c49), (11, .slice A499 b6.length c500), (12, .int .i64 (IntKind.i64.wrap (x618 + 1)))]) rfl ?_
                              exact ih620 _ (by omega) _ _ _ ⟨IntKind.i64.wrap (x618 + 1), rfl, rfl, H, hle, by omega, ho502, ho51⟩
                          · rw [if_neg h622] at H
                            refine at_cond_f rfl (decide_eq_false h622) ?_
                            refine at_exit ?_
                            refine at_then_exit ?_
                            refine at_then_exit ?_
                            refine at_in_hit ?_
                            refine at_thn ?_
                            refine at_drop (k := 0) rfl rfl ?_
                            refine at_keep [6, 11] (L2 := [(6, .slice A48 b3.length c49), (11, .slice A499 b6.length c500)]) rfl ?_
                            exact Jn503 _ _ _ ⟨_, rfl, rfl, H, hle, by omega, ho502, ho51⟩
                    · intro Jn380
                      refine at_seq ?_
                      refine at_ops [0, 1, 2, 3, 4, 5, 6, 7, 8, 9, 10, 11, 12] rfl ?_
                      refine at_seg [0, 1, 2, 3, 4, 5, 6] [7, 8, 9, 10, 11, 12] rfl [(0, .agg #[.int .i64 b5.Kind, str b5.Name, .int .i64 b5.Used]), (2, str b1.2.Name), (4, str b1.2.Keys)] [4, 6, 10, 79, 85] (L2 := [(4, .pointer (some ⟨g16, 0, none⟩)), (6, .slice A48 b3.length c49), (10, .pointer (some ⟨g379, 0, none⟩)), (79, .agg #[.int .i64 b5.Kind, str b5.Name, .int .i64 b5.Used]), (85, .agg #[.int .i64 3, str b1.2.Name, .int .i64 (b1.2.Keys.length : Int)])]) (obs := [fun w => CellsAt w ⟨g379, 0, none⟩ [.int .i64 b5.Kind, str b5.Name, .int .i64 b5.Used] 0, fun w => w.cell? ⟨g16, 2, none⟩ = some (str b1.2.Name), fun w => w.cell? ⟨g16, 1, none⟩ = some (str b1.2.Keys)]) (by kernel_rfl) ?_ ?_
                      · intro w hs; exact ⟨cellsV (k := 0) hs rfl _ 0 (Nat.le_of_ble_eq_true (by kernel_rfl)) rfl, hs.var (k := 3) rfl 2 rfl, hs.var (k := 3) rfl 1 rfl⟩
                      refine at_eff rfl rfl ?_
                      refine eff_neAgg (b := ((b5.Kind == 3) && ((b5.Name == b1.2.Name) && ((b5.Used == (b1.2.Keys.length : Int)) && true)))) 4 rfl rfl (by decide) (by kernel_rfl) rfl rfl (by kernel_rfl) ?_
                      by_cases h635 : ((b5.Kind == 3) && ((b5.Name == b1.2.Name) && ((b5.Used == (b1.2.Keys.length : Int)) && true))) = true
                      · rw [if_pos h635] at H
                        refine at_seg [8, 9, 10, 11, 12] [] rfl [(8, .bool false)] [4, 6, 91] (L2 := [(4, .pointer (some ⟨g16, 0, none⟩)), (6, .slice A48 b3.length c49), (91, .bool false)]) (obs := [fun _ => (.bool (!((b5.Kind == 3) && ((b5.Name == b1.2.Name) && ((b5.Used == (b1.2.Keys.length : Int)) && true)))) : Value) = .bool false]) (by kernel_rfl) ?_ ?_
                        · intro w hs; exact congrArg Value.bool (not_ff (h635))
                        refine at_end ?_
                        refine at_thn ?_
                        refine at_cond_f rfl (rfl) ?_
                        refine at_skip ?_
                        refine at_thn ?_
                        refine at_drop (k := 0) rfl rfl ?_
                        refine at_drop (k := 0) rfl rfl ?_
                        refine at_drop (k := 0) rfl rfl ?_
                        refine at_keep [4, 6] (L2 := [(4, .pointer (some ⟨g16, 0, none⟩)), (6, .slice A48 b3.length c49)]) rfl ?_
                        exact Jn380 _ _ _ ⟨_, rfl, rfl, H, hle, by omega, ho51⟩
                      · rw [if_neg h635] at H
                        refine at_seg [8, 9, 10, 11, 12] [] rfl [(8, .bool true), (10, .int .i64 b5.Kind)] [4, 6, 91] (L2 := [(4, .pointer (some ⟨g16, 0, none⟩)), (6, .slice A48 b3.length c49), (91, .bool (b5.Kind != 2))]) (obs := [fun _ => (.bool (!((b5.Kind == 3) && ((b5.Name == b1.2.Name) && ((b5.Used == (b1.2.Keys.length : Int)) && true)))) : Value) = .bool true, fun w => w.cell? ⟨g379, 0, none⟩ = some (.int .i64 b5.Kind)]) (by kernel_rfl) ?_ ?_
                        · intro w hs; exact ⟨congrArg Value.bool (not_tt (ff_of h635)), hs.var (k := 0) rfl 0 rfl⟩
                        refine at_end ?_
                        refine at_thn ?_
                        by_cases h636 : b5.Kind = 2
                        · rw [if_pos h636] at H
                          refine at_cond_f rfl (bne_eq_false_iff_eq.2 h636) ?_
                          refine at_skip ?_
                          refine at_thn ?_
                          refine at_drop (k := 0) rfl rfl ?_
                          refine at_drop (k := 0) rfl rfl ?_
                          refine at_drop (k := 0) rfl rfl ?_
                          refine at_keep [4, 6] (L2 := [(4, .pointer (some ⟨g16, 0, none⟩)), (6, .slice A48 b3.length c49)]) rfl ?_
                          exact Jn380 _ _ _ ⟨_, rfl, rfl, H, hle, by omega, ho51⟩
                        · rw [if_neg h636] at H
                          refine at_cond_t rfl (bne_iff_ne.2 h636) ?_
                          refine at_seq ?_
                          refine at_reg [] [2] (L2 := [(2, .bool false)]) (obs := []) (by kernel_rfl) ?_ ?_
                          · intro w hs; exact trivial
                          refine at_thn ?_
                          refine at_ret ?_
                          refine at_then_ret ?_
                          obtain rfl := Option.some.inj H
                          refine at_drop (k := 0) rfl rfl ?_
                          refine at_drop (k := 0) rfl rfl ?_
                          refine at_drop (k := 0) rfl rfl ?_
                          refine at_drop (k := 0) rfl rfl ?_
                          refine at_drop (k := 0) rfl rfl ?_
                          refine at_done (vs := [.bool false]) (obs := []) (.inl rfl) [.tmp 2] [] rfl (by kernel_rfl) (fun w hs => trivial) (fun w hs => ⟨_, _, [], rfl, ⟨rfl, rfl⟩, hle, hs⟩)
                  · refine at_xone (#[true, true, true, true, true, true, true, false, true, false]) (by kernel_rfl) rfl rfl ?_
                    obtain ⟨i_, hi_, hz_, _, _⟩ := info31
                    refine eff_alloc rfl rfl hi_ hz_ #[.int .i64 0, str ([] : List UInt8), .int .i64 0] rfl (fun g637 => ?_)
                    refine at_xS (fun w hs => ⟨hs.var (k := 3) rfl 0 rfl, hs.var (k := 3) rfl 1 rfl⟩) ?_
                    refine at_x1 1 7 (#[true, true, true, true, true, true, true, true, true, false]) rfl (by kernel_rfl) (by kernel_rfl) rfl rfl ?_
                    obtain ⟨b5, H638, H⟩ := bind_some H
                    refine eff_read rfl rfl (rv := .agg #[.int .i64 b5.Kind, str b5.Name, .int .i64 b5.Used]) (Ms' := (s373 :: [(g637, .cells #[.int .i64 0, str ([] : List UInt8), .int .i64 0] 31 (0, 0))] :: s29 :: [(g16, .cells #[.int .i64 b1.2.Map, str b1.2.Keys, str b1.2.Name] 25 (0, 0))] :: s50 :: Fs)) ok8 rfl rfl ?_ ?_
                    · refine Reads.lend (k := 1) rfl (fun J639 hJ640 hin641 => ?_)
                      exact Reads.of_meets (Mr := ([(g637, .cells #[.int .i64 0, str ([] : List UInt8), .int .i64 0] 31 (0, 0))] :: s29 :: [(g16, .cells #[.int .i64 b1.2.Map, str b1.2.Keys, str b1.2.Name] 25 (0, 0))] :: s50 :: Fs)) (show Meets Try.prog 8 ([.slice A371 (([] : List T_impl_Key) ++ b3).length c372, .int .i64 b1.2.Map, str b1.2.Keys] : List Value).toArray J639 [] _ from impl_KeyLook.calls (I0 := J639) H638 (ho374.rd hJ640 hin641)) (List.Perm.refl _)
                    refine at_xS (fun w hs => ⟨hs.var (k := 3) rfl 0 rfl, hs.var (k := 3) rfl 1 rfl⟩) ?_
                    refine at_x1 0 9 (#[true, true, true, true, true, true, true, true, true, true]) rfl (by kernel_rfl) (by kernel_rfl) rfl rfl ?_
                    refine eff_store 1 rfl rfl rfl rfl rfl rfl (.inl (Nat.le_refl _)) rfl (Nat.le_of_ble_eq_true (by kernel_rfl)) rfl ?_
                    refine at_xX (by kernel_rfl) ?_
                    refine at_xend (by kernel_rfl) ?_
                    refine at_thn ?_
                    refine at_join (fun L I Ms => ∃ (k743 : Nat), L = [(4, .pointer (some ⟨g16, 0, none⟩)), (6, .slice A48 b3.length c49)] ∧ Ms = ([(g16, .cells #[.int .i64 b1.2.Map, str b1.2.Keys, str b1.2.Name] 25 (0, 0))] :: s50 :: Fs) ∧ laws_FnBind_j3 k743 b1 b3 = some r ∧ ImmLe I0 I ∧ k743 ≤ k258 ∧ Own k_impl_Key 25 I A48 c49 b3 s50) ?_ ?_
                    · clear H hle ho374 ho51
                      intro L I Ms h_; obtain ⟨k743, hL_, hM_, H, hle, hk744, ho51⟩ := h_; rw [hL_, hM_]; clear hL_ hM_ L Ms
                      rcases k743 with _ | k743
                      · exact (no_none H).elim
                      rw [laws_FnBind_j3] at H
                      refine at_seq ?_
                      refine at_x hmo (fun w => w.cell? ⟨g16, 0, none⟩ = some (.int .i64 b1.2.Map) ∧ w.cell? ⟨g16, 1, none⟩ = some (str b1.2.Keys)) [] ?_
                      refine at_xseg [1, 3, 4, 5, 6] 4 (#[false, true, false, true, true, true, true, false, false]) rfl (by kernel_rfl) [(4, .int .i64 b1.2.Map), (6, str b1.2.Keys)] [4, 6, 93, 96, 98] (L2 := [(4, .pointer (some ⟨g16, 0, none⟩)), (6, .slice A48 b3.length c49), (93, .slice A48 b3.length c49), (96, .int .i64 b1.2.Map), (98, str b1.2.Keys)]) (obs := [fun w => w.cell? ⟨g16, 0, none⟩ = some (.int .i64 b1.2.Map), fun w => w.cell? ⟨g16, 1, none⟩ = some (str b1.2.Keys)]) (by kernel_rfl) (by kernel_rfl) (by kernel_rfl) (.inr fun w hs => ⟨hs.var (k := 0) rfl 0 rfl, hs.var (k := 0) rfl 1 rfl⟩) (fun w hS => ⟨hS.1, hS.2⟩) (fun w hs => ⟨hs.var (k := 0) rfl 0 rfl, hs.var (k := 0) rfl 1 rfl⟩) ?_
                      refine at_x1 3 0 (#[true, true, false, true, true, true, true, false, false]) rfl (by kernel_rfl) (by kernel_rfl) rfl rfl ?_
                      refine eff_buildSlice (e := 25) (cells := #[]) ([] : List T_impl_Key).length rfl rfl rfl (by kernel_rfl) (fun g745 => ?_)
                      have ho746 := own_lit (K := k_impl_Key) (e := 25) (I := I) (xs := ([] : List T_impl_Key)) (css := []) (cells := #[]) (b := g745) trivial rfl
                      refine at_xS (fun w hs => ⟨hs.var (k := 1) rfl 0 rfl, hs.var (k := 1) rfl 1 rfl⟩) ?_
                      refine at_x1 2 2 (#[true, true, true, true, true, true, true, false, false]) rfl (by kernel_rfl) (by kernel_rfl) rfl rfl ?_
                      obtain ⟨i_, hi_, hz_, hs_, hb_⟩ := info25
                      refine eff_append (K := k_impl_Key) (xs := ([] : List T_impl_Key)) (ys := b3) 0 rfl rfl rfl rfl rfl und23 und23 hi_ hz_ hs_ rfl rfl rfl ho746 rfl (fun w hs => ho51.rowAt (k := 2) hs rfl) (by rw [hb_]; omega) (by omega) (fun A747 c748 s749 ho750 => ?_)
                      refine at_xS (fun w hs => ⟨hs.var (k := 1) rfl 0 rfl, hs.var (k := 1) rfl 1 rfl⟩) ?_
                      refine at_x1 1 7 (#[true, true, true, true, true, true, true, true, false]) rfl (by kernel_rfl) (by kernel_rfl) rfl rfl ?_
                      refine at_freeze (k := 0) rfl rfl (fun J751 hJ752 hin753 => ?_)
                      replace hle := hle.trans hJ752
                      replace ho51 := ho51.mono hJ752
                      replace ho750 := ho750.mono hJ752
                      have hr754 := ho750.rd (ImmLe.refl _) hin753
                      obtain ⟨b6, H755, H⟩ := bind_some H
                      have hm_ := impl_KeyDrop.calls (I0 := J751) H755 hr754
                      refine eff_call rfl rfl ok9 rfl rfl (show Meets Try.prog 9 ([.slice A747 (([] : List T_impl_Key) ++ b3).length c748, .int .i64 b1.2.Map, str b1.2.Keys] : List Value).toArray _ [] _ from hm_) (Mr := ([(g16, .cells #[.int .i64 b1.2.Map, str b1.2.Keys, str b1.2.Name] 25 (0, 0))] :: s50 :: Fs)) (List.Perm.refl _) (fun v756 J757 M758 hq759 hJ760 => ?_)
                      replace hle := hle.trans hJ760
                      replace ho51 := ho51.mono hJ760
                      replace hr754 := hr754.mono hJ760
                      obtain ⟨A761, c762, s763, rfl, rfl, ho764⟩ := hq759
                      refine at_xS (fun w hs => ⟨hs.var (k := 1) rfl 0 rfl, hs.var (k := 1) rfl 1 rfl⟩) ?_
                      refine at_xseg [8] 0 (#[true, true, true, true, true, true, true, true, true]) rfl (by kernel_rfl) [] [4, 6, 11] (L2 := [(4, .pointer (some ⟨g16, 0, none⟩)), (6, .slice A48 b3.length c49), (11, .slice A761 b6.length c762)]) (obs := []) (by kernel_rfl) (by kernel_rfl) (by kernel_rfl) (.inr fun w hs => ⟨hs.var (k := 1) rfl 0 rfl, hs.var (k := 1) rfl 1 rfl⟩) (fun w hS => trivial) (fun w hs => trivial) ?_
                      refine at_xend (by kernel_rfl) ?_
                      refine at_thn ?_
                      refine at_join (fun L I Ms => ∃ (k866 : Nat), L = [(6, .slice A48 b3.length c49), (11, .slice A761 b6.length c762)] ∧ Ms = (s50 :: s763 :: Fs) ∧ laws_FnBind_j4 k866 b3 b6 = some r ∧ ImmLe I0 I ∧ k866 ≤ k743 ∧ Own k_impl_Key 25 I A48 c49 b3 s50 ∧ Own k_impl_Key 25 I A761 c762 b6 s763) ?_ ?_
                      · clear H hle ho51 ho764
                        intro L I Ms h_; obtain ⟨k866, hL_, hM_, H, hle, hk867, ho51, ho764⟩ := h_; rw [hL_, hM_]; clear hL_ hM_ L Ms
                        rcases k866 with _ | k866
                        · exact (no_none H).elim
                        rw [laws_FnBind_j4] at H
                        refine at_seq ?_
                        refine at_ops [0, 1, 2, 3, 4, 5, 6, 7, 8, 9, 10, 11, 12] rfl ?_
                        by_cases h868 : (b6.length : Int) = (IntKind.i64.wrap ((b3.length : Int) - 1))
                        · rw [if_pos h868] at H
                          refine at_seg [0, 1, 2, 3, 4, 5, 6] [7, 8, 9, 10, 11, 12] rfl [(6, .bool true)] [11, 130] (L2 := [(11, .slice A761 b6.length c762), (130, .bool true)]) (obs := [fun _ => (.bool ((b6.length : Int) == (IntKind.i64.wrap ((b3.length : Int) - 1))) : Value) = .bool true]) (by kernel_rfl) ?_ ?_
                          · intro w hs; exact congrArg Value.bool (beq_iff_eq.2 h868)
                          refine at_eff rfl rfl ?_
                          refine eff_buildSlice (e := 25) (cells := #[]) ([] : List T_impl_Key).length rfl rfl rfl (by kernel_rfl) (fun g869 => ?_)
                          have ho870 := own_lit (K := k_impl_Key) (e := 25) (I := I) (xs := ([] : List T_impl_Key)) (css := []) (cells := #[]) (b := g869) trivial rfl
                          refine at_seg [8] [9, 10, 11, 12] rfl [] [130, 131, 132] (L2 := [(130, .bool true), (131, .slice (some ⟨g869, 0, none⟩ : Option Addr) ([] : List T_impl_Key).length (([] : List T_impl_Key).length)), (132, .slice A761 b6.length c762)]) (obs := []) (by kernel_rfl) ?_ ?_
                          · intro w hs; exact trivial
                          refine at_eff rfl rfl ?_
                          obtain ⟨h871, H⟩ := ite_some H
                          obtain ⟨i_, hi_, hz_, hs_, hb_⟩ := info25
                          refine eff_append (K := k_impl_Key) (xs := ([] : List T_impl_Key)) (ys := b6) 0 rfl rfl rfl rfl rfl und23 und23 hi_ hz_ hs_ rfl rfl rfl ho870 rfl (fun w hs => ho764.rowAt (k := 2) hs rfl) (by rw [hb_]; omega) (by omega) (fun A872 c873 s874 ho875 => ?_)
                          refine at_eff rfl rfl ?_
                          obtain ⟨b7, H876, H⟩ := bind_some H
                          refine eff_read rfl rfl (rv := .bool b7) (Ms' := (s874 :: s50 :: s763 :: Fs)) ok10 rfl rfl ?_ ?_
                          · refine Reads.lend (k := 0) rfl (fun J877 hJ878 hin879 => ?_)
                            exact Reads.of_meets (Mr := (s50 :: s763 :: Fs)) (show Meets Try.prog 10 ([.slice A872 (([] : List T_impl_Key) ++ b6).length c873] : List Value).toArray J877 [] _ from impl_KeysRight.calls (I0 := J877) H876 (ho875.rd hJ878 hin879)) (List.Perm.refl _)
                          refine at_seg [11, 12] [] rfl [] [2] (L2 := [(2, .bool b7)]) (obs := []) (by kernel_rfl) ?_ ?_
                          · intro w hs; exact trivial
                          refine at_end ?_
                          refine at_thn ?_
                          refine at_ret ?_
                          obtain rfl := Option.some.inj H
                          refine at_drop (k := 0) rfl rfl ?_
                          refine at_drop (k := 0) rfl rfl ?_
                          refine at_drop (k := 0) rfl rfl ?_
                          refine at_done (vs := [.bool b7]) (obs := []) (.inl rfl) [.tmp 2] [] rfl (by kernel_rfl) (fun w hs => trivial) (fun w hs => ⟨_, _, [], rfl, ⟨rfl, rfl⟩, hle, hs⟩)
                        · rw [if_neg h868] at H
                          refine at_seg [0, 1, 2, 3, 4, 5, 6] [7, 8, 9, 10, 11, 12] rfl [(6, .bool false)] [11, 130] (L2 := [(11, .slice A761 b6.length c762), (130, .bool false)]) (obs := [fun _ => (.bool ((b6.length : Int) == (IntKind.i64.wrap ((b3.length : Int) - 1))) : Value) = .bool false]) (by kernel_rfl) ?_ ?_
                          · intro w hs; exact congrArg Value.bool (beq_eq_false_iff_ne.2 h868)
                          refine at_seg [7, 8] [9, 10, 11, 12] rfl [] [130, 131, 132] (L2 := [(130, .bool false), (131, undef), (132, undef)]) (obs := []) (by kernel_rfl) ?_ ?_
                          · intro w hs; exact trivial
                          refine at_seg [9] [10, 11, 12] rfl [] [130, 133] (L2 := [(130, .bool false), (133, undef)]) (obs := []) (by kernel_rfl) ?_ ?_
                          · intro w hs; exact trivial
                          refine at_seg [10, 11, 12] [] rfl [] [2] (L2 := [(2, .bool false)]) (obs := []) (by kernel_rfl) ?_ ?_
                          · intro w hs; exact trivial
                          refine at_end ?_
                          refine at_thn ?_
                          refine at_ret ?_
                          obtain rfl := Option.some.inj H
                          refine at_drop (k := 0) rfl rfl ?_
                          refine at_drop (k := 0) rfl rfl ?_
                          refine at_done (vs := [.bool false]) (obs := []) (.inl rfl) [.tmp 2] [] rfl (by kernel_rfl) (fun w hs => trivial) (fun w hs => ⟨_, _, [], rfl, ⟨rfl, rfl⟩, hle, hs⟩)
                      · intro Jn765
                        refine at_seq ?_
                        refine at_reg [] [4, 6, 11, 12] (L2 := [(4, .pointer (some ⟨g16, 0, none⟩)), (6, .slice A48 b3.length c49), (11, .slice A761 b6.length c762), (12, .int .i64 0)]) (obs := []) (by kernel_rfl) ?_ ?_
                        · intro w hs; exact trivial
                        refine at_thn ?_
                        refine at_block ?_
                        refine at_perm ((perm_at (k := 1) rfl).trans (((perm_at (k := 1) rfl).trans ((List.Perm.refl _).cons _)).cons _)) ?_
                        refine at_keep [4, 6, 11, 12] (L2 := [(4, .pointer (some ⟨g16, 0, none⟩)), (6, .slice A48 b3.length c49), (11, .slice A761 b6.length c762), (12, .int .i64 0)]) rfl ?_
                        refine at_loop (fun k881 L I Ms => ∃ (x880 : Int), L = [(4, .pointer (some ⟨g16, 0, none⟩)), (6, .slice A48 b3.length c49), (11, .slice A761 b6.length c762), (12, .int .i64 x880)] ∧ Ms = ([(g16, .cells #[.int .i64 b1.2.Map, str b1.2.Keys, str b1.2.Name] 25 (0, 0))] :: s50 :: s763 :: Fs) ∧ laws_FnBind_l0 k881 x880 b1 b3 b6 = some r ∧ ImmLe I0 I ∧ k881 ≤ k743 ∧ Own k_impl_Key 25 I A48 c49 b3 s50 ∧ Own k_impl_Key 25 I A761 c762 b6 s763) ?_ ?_ k743 ⟨0, rfl, rfl, H, hle, Nat.le_refl _, ho51, ho764⟩
                        · rintro L I Ms ⟨_, rfl, rfl, H, _⟩; exact no_none H
                        · clear H hle ho51 ho764
                          intro k881 ih882 L I Ms h_; obtain ⟨x880, hL_, hM_, H, hle, hk883, ho51, ho764⟩ := h_; rw [hL_, hM_]; clear hL_ hM_ L Ms
                          rw [laws_FnBind_l0] at H
                          refine at_seq ?_
                          refine at_seq ?_
                          refine at_reg [] [4, 6, 11, 12, 103] (L2 := [(4, .pointer (some ⟨g16, 0, none⟩)), (6, .slice A48 b3.length c49), (11, .slice A761 b6.length c762), (12, .int .i64 x880), (103, .bool (decide (x880 < (b6.length : Int))))]) (obs := []) (by kernel_rfl) ?_ ?_
                          · intro w hs; exact trivial
                          refine at_thn ?_
                          by_cases h884 : x880 < (b6.length : Int)
                          · rw [if_pos h884] at H
                            refine at_cond_t rfl (decide_eq_true h884) ?_
                            refine at_skip ?_
                            refine at_thn ?_
                            refine at_seq ?_
                            refine at_block ?_
                            refine at_seq ?_
                            obtain ⟨h885, H⟩ := ite_some H
                            by_cases h889 : ((rdA z_impl_Key b6 x880).Map) = b1.2.Map
                            · rw [if_pos h889] at H
                              obtain ⟨cs891, hz892, hc890⟩ := ho764.elem z_impl_Key x880 h885 h884
                              obtain rfl := hz892
                              refine at_regd hmo [(4, .int .i64 ((rdA z_impl_Key b6 x880).Map)), (6, .int .i64 b1.2.Map), (8, .bool true), (13, str ((rdA z_impl_Key b6 x880).Keys)), (15, str b1.2.Keys)] [4, 6, 11, 12, 123] (by kernel_rfl) (L2 := [(4, .pointer (some ⟨g16, 0, none⟩)), (6, .slice A48 b3.length c49), (11, .slice A761 b6.length c762), (12, .int .i64 x880), (123, .bool (((rdA z_impl_Key b6 x880).Keys) == b1.2.Keys))]) (obs := [fun _ => A761.isSome = true ∧ 0 ≤ x880 ∧ x880 < ((b6.length : Nat) : Int), fun w => w.cell? (((A761.getD ad0).add (x880.toNat * 3)).add 0) = some (.int .i64 ((rdA z_impl_Key b6 x880).Map)), fun w => w.cell? ⟨g16, 0, none⟩ = some (.int .i64 b1.2.Map), fun _ => (.bool (((rdA z_impl_Key b6 x880).Map) == b1.2.Map) : Value) = .bool true, fun _ => A761.isSome = true ∧ 0 ≤ x880 ∧ x880 < ((b6.length : Nat) : Int), fun w => w.cell? (((A761.getD ad0).add (x880.toNat * 3)).add 1) = some (str ((rdA z_impl_Key b6 x880).Keys)), fun w => w.cell? ⟨g16, 1, none⟩ = some (str b1.2.Keys)]) (by kernel_rfl) ?_ ?_
                              · intro w hs; exact ⟨⟨ho764.ne x880 h885 h884, h885, h884⟩, hc890 0 _ rfl hs (k := 2) rfl, hs.var (k := 0) rfl 0 rfl, congrArg Value.bool (beq_iff_eq.2 h889), ⟨ho764.ne x880 h885 h884, h885, h884⟩, hc890 1 _ rfl hs (k := 2) rfl, hs.var (k := 0) rfl 1 rfl⟩
                              refine at_thn ?_
                              by_cases h893 : ((rdA z_impl_Key b6 x880).Keys) = b1.2.Keys
                              · rw [if_pos h893] at H
                                refine at_cond_t rfl (beq_iff_eq.2 h893) ?_
                                refine at_seq ?_
                                refine at_reg [] [2] (L2 := [(2, .bool false)]) (obs := []) (by kernel_rfl) ?_ ?_
                                · intro w hs; exact trivial
                                refine at_thn ?_
                                refine at_ret ?_
                                refine at_in_ret ?_
                                refine at_then_ret ?_
                                refine at_then_ret ?_
                                refine at_in_ret ?_
                                refine at_then_ret ?_
                                obtain rfl := Option.some.inj H
                                refine at_drop (k := 0) rfl rfl ?_
                                refine at_drop (k := 0) rfl rfl ?_
                                refine at_drop (k := 0) rfl rfl ?_
                                refine at_done (vs := [.bool false]) (obs := []) (.inl rfl) [.tmp 2] [] rfl (by kernel_rfl) (fun w hs => trivial) (fun w hs => ⟨_, _, [], rfl, ⟨rfl, rfl⟩, hle, hs⟩)
                              · rw [if_neg h893] at H
                                refine at_cond_f rfl (beq_eq_false_iff_ne.2 h893) ?_
                                refine at_skip ?_
                                refine at_in_norm ?_
                                refine at_thn ?_
                                refine at_reg [] [4, 6, 11, 12] (L2 := [(4, .pointer (some ⟨g16, 0, none⟩)), (6, .slice A48 b3.length c49), (11, .slice A761 b6.length c762), (12, .int .i64 (IntKind.i64.wrap (x880 + 1)))]) (obs := []) (by kernel_rfl) ?_ ?_
                                · intro w hs; exact trivial
                                refine at_thn ?_
                                refine at_keep [4, 6, 11, 12] (L2 := [(4, .pointer (some ⟨g16, 0, none⟩)), (6, .slice A48 b3.length c49), (11, .slice A761 b6.length c762), (12, .int .i64 (IntKind.i64.wrap (x880 + 1)))]) rfl ?_
                                exact ih882 _ (by omega) _ _ _ ⟨IntKind.i64.wrap (x880 + 1), rfl, rfl, H, hle, by omega, ho51, ho764⟩
                            · rw [if_neg h889] at H
                              obtain ⟨cs895, hz896, hc894⟩ := ho764.elem z_impl_Key x880 h885 h884
                              obtain rfl := hz896
                              refine at_regd hmo [(4, .int .i64 ((rdA z_impl_Key b6 x880).Map)), (6, .int .i64 b1.2.Map), (8, .bool false)] [4, 6, 11, 12, 123] (by kernel_rfl) (L2 := [(4, .pointer (some ⟨g16, 0, none⟩)), (6, .slice A48 b3.length c49), (11, .slice A761 b6.length c762), (12, .int .i64 x880), (123, .bool false)]) (obs := [fun _ => A761.isSome = true ∧ 0 ≤ x880 ∧ x880 < ((b6.length : Nat) : Int), fun w => w.cell? (((A761.getD ad0).add (x880.toNat * 3)).add 0) = some (.int .i64 ((rdA z_impl_Key b6 x880).Map)), fun w => w.cell? ⟨g16, 0, none⟩ = some (.int .i64 b1.2.Map), fun _ => (.bool (((rdA z_impl_Key b6 x880).Map) == b1.2.Map) : Value) = .bool false]) (by kernel_rfl) ?_ ?_
                              · intro w hs; exact ⟨⟨ho764.ne x880 h885 h884, h885, h884⟩, hc894 0 _ rfl hs (k := 2) rfl, hs.var (k := 0) rfl 0 rfl, congrArg Value.bool (beq_eq_false_iff_ne.2 h889)⟩
                              refine at_thn ?_
                              refine at_cond_f rfl (rfl) ?_
                              refine at_skip ?_
                              refine at_in_norm ?_
                              refine at_thn ?_
                              refine at_reg [] [4, 6, 11, 12] (L2 := [(4, .pointer (some ⟨g16, 0, none⟩)), (6, .slice A48 b3.length c49), (11, .slice A761 b6.length c762), (12, .int .i64 (IntKind.i64.wrap (x880 + 1)))]) (obs := []) (by kernel_rfl) ?_ ?_
                              · intro w hs; exact trivial
                              refine at_thn ?_
                              refine at_keep [4, 6, 11, 12] (L2 := [(4, .pointer (some ⟨g16, 0, none⟩)), (6, .slice A48 b3.length c49), (11, .slice A761 b6.length c762), (12, .int .i64 (IntKind.i64.wrap (x880 + 1)))]) rfl ?_
                              exact ih882 _ (by omega) _ _ _ ⟨IntKind.i64.wrap (x880 + 1), rfl, rfl, H, hle, by omega, ho51, ho764⟩
                          · rw [if_neg h884] at H
                            refine at_cond_f rfl (decide_eq_false h884) ?_
                            refine at_exit ?_
                            refine at_then_exit ?_
                            refine at_then_exit ?_
                            refine at_in_hit ?_
                            refine at_thn ?_
                            refine at_drop (k := 0) rfl rfl ?_
                            refine at_keep [6, 11] (L2 := [(6, .slice A48 b3.length c49), (11, .slice A761 b6.length c762)]) rfl ?_
                            exact Jn765 _ _ _ ⟨_, rfl, rfl, H, hle, by omega, ho51, ho764⟩
                    · intro Jn642
                      refine at_seq ?_
                      refine at_ops [0, 1, 2, 3, 4, 5, 6, 7, 8, 9, 10, 11, 12] rfl ?_
                      refine at_seg [0, 1, 2, 3, 4, 5, 6] [7, 8, 9, 10, 11, 12] rfl [(0, .agg #[.int .i64 b5.Kind, str b5.Name, .int .i64 b5.Used]), (2, str b1.2.Name), (4, str b1.2.Keys)] [4, 6, 10, 79, 85] (L2 := [(4, .pointer (some ⟨g16, 0, none⟩)), (6, .slice A48 b3.length c49), (10, .pointer (some ⟨g637, 0, none⟩)), (79, .agg #[.int .i64 b5.Kind, str b5.Name, .int .i64 b5.Used]), (85, .agg #[.int .i64 3, str b1.2.Name, .int .i64 (b1.2.Keys.length : Int)])]) (obs := [fun w => CellsAt w ⟨g637, 0, none⟩ [.int .i64 b5.Kind, str b5.Name, .int .i64 b5.Used] 0, fun w => w.cell? ⟨g16, 2, none⟩ = some (str b1.2.Name), fun w => w.cell? ⟨g16, 1, none⟩ = some (str b1.2.Keys)]) (by kernel_rfl) ?_ ?_
                      · intro w hs; exact ⟨cellsV (k := 1) hs rfl _ 0 (Nat.le_of_ble_eq_true (by kernel_rfl)) rfl, hs.var (k := 3) rfl 2 rfl, hs.var (k := 3) rfl 1 rfl⟩
                      refine at_eff rfl rfl ?_
                      refine eff_neAgg (b := ((b5.Kind == 3) && ((b5.Name == b1.2.Name) && ((b5.Used == (b1.2.Keys.length : Int)) && true)))) 4 rfl rfl (by decide) (by kernel_rfl) rfl rfl (by kernel_rfl) ?_
                      by_cases h897 : ((b5.Kind == 3) && ((b5.Name == b1.2.Name) && ((b5.Used == (b1.2.Keys.length : Int)) && true))) = true
                      · rw [if_pos h897] at H
                        refine at_seg [8, 9, 10, 11, 12] [] rfl [(8, .bool false)] [4, 6, 91] (L2 := [(4, .pointer (some ⟨g16, 0, none⟩)), (6, .slice A48 b3.length c49), (91, .bool false)]) (obs := [fun _ => (.bool (!((b5.Kind == 3) && ((b5.Name == b1.2.Name) && ((b5.Used == (b1.2.Keys.length : Int)) && true)))) : Value) = .bool false]) (by kernel_rfl) ?_ ?_
                        · intro w hs; exact congrArg Value.bool (not_ff (h897))
                        refine at_end ?_
                        refine at_thn ?_
                        refine at_cond_f rfl (rfl) ?_
                        refine at_skip ?_
                        refine at_thn ?_
                        refine at_drop (k := 0) rfl rfl ?_
                        refine at_drop (k := 0) rfl rfl ?_
                        refine at_drop (k := 0) rfl rfl ?_
                        refine at_keep [4, 6] (L2 := [(4, .pointer (some ⟨g16, 0, none⟩)), (6, .slice A48 b3.length c49)]) rfl ?_
                        exact Jn642 _ _ _ ⟨_, rfl, rfl, H, hle, by omega, ho51⟩
                      · rw [if_neg h897] at H
                        refine at_seg [8, 9, 10, 11, 12] [] rfl [(8, .bool true), (10, .int .i64 b5.Kind)] [4, 6, 91] (L2 := [(4, .pointer (some ⟨g16, 0, none⟩)), (6, .slice A48 b3.length c49), (91, .bool (b5.Kind != 2))]) (obs := [fun _ => (.bool (!((b5.Kind == 3) && ((b5.Name == b1.2.Name) && ((b5.Used == (b1.2.Keys.length : Int)) && true)))) : Value) = .bool true, fun w => w.cell? ⟨g637, 0, none⟩ = some (.int .i64 b5.Kind)]) (by kernel_rfl) ?_ ?_
                        · intro w hs; exact ⟨congrArg Value.bool (not_tt (ff_of h897)), hs.var (k := 1) rfl 0 rfl⟩
                        refine at_end ?_
                        refine at_thn ?_
                        by_cases h898 : b5.Kind = 2
                        · rw [if_pos h898] at H
                          refine at_cond_f rfl (bne_eq_false_iff_eq.2 h898) ?_
                          refine at_skip ?_
                          refine at_thn ?_
                          refine at_drop (k := 0) rfl rfl ?_
                          refine at_drop (k := 0) rfl rfl ?_
                          refine at_drop (k := 0) rfl rfl ?_
                          refine at_keep [4, 6] (L2 := [(4, .pointer (some ⟨g16, 0, none⟩)), (6, .slice A48 b3.length c49)]) rfl ?_
                          exact Jn642 _ _ _ ⟨_, rfl, rfl, H, hle, by omega, ho51⟩
                        · rw [if_neg h898] at H
                          refine at_cond_t rfl (bne_iff_ne.2 h898) ?_
                          refine at_seq ?_
                          refine at_reg [] [2] (L2 := [(2, .bool false)]) (obs := []) (by kernel_rfl) ?_ ?_
                          · intro w hs; exact trivial
                          refine at_thn ?_
                          refine at_ret ?_
                          refine at_then_ret ?_
                          obtain rfl := Option.some.inj H
                          refine at_drop (k := 0) rfl rfl ?_
                          refine at_drop (k := 0) rfl rfl ?_
                          refine at_drop (k := 0) rfl rfl ?_
                          refine at_drop (k := 0) rfl rfl ?_
                          refine at_drop (k := 0) rfl rfl ?_
                          refine at_done (vs := [.bool false]) (obs := []) (.inl rfl) [.tmp 2] [] rfl (by kernel_rfl) (fun w hs => trivial) (fun w hs => ⟨_, _, [], rfl, ⟨rfl, rfl⟩, hle, hs⟩)
                · refine at_xone (#[true, true, false, true, true, true, true, false, true, false]) (by kernel_rfl) rfl rfl ?_
                  obtain ⟨i_, hi_, hz_, _, _⟩ := info31
                  refine eff_alloc rfl rfl hi_ hz_ #[.int .i64 0, str ([] : List UInt8), .int .i64 0] rfl (fun g899 => ?_)
                  refine at_xS (fun w hs => ⟨hs.var (k := 3) rfl 0 rfl, hs.var (k := 3) rfl 1 rfl⟩) ?_
                  refine at_x1 2 2 (#[true, true, true, true, true, true, true, false, true, false]) rfl (by kernel_rfl) (by kernel_rfl) rfl rfl ?_
                  obtain ⟨h900, H⟩ := ite_some H
                  obtain ⟨i_, hi_, hz_, hs_, hb_⟩ := info25
                  refine eff_append (K := k_impl_Key) (xs := ([] : List T_impl_Key)) (ys := b3) 1 rfl rfl rfl rfl rfl und23 und23 hi_ hz_ hs_ rfl rfl rfl ho369 rfl (fun w hs => ho51.rowAt (k := 4) hs rfl) (by rw [hb_]; omega) (by omega) (fun A901 c902 s903 ho904 => ?_)
                  refine at_xS (fun w hs => ⟨hs.var (k := 3) rfl 0 rfl, hs.var (k := 3) rfl 1 rfl⟩) ?_
                  refine at_x1 1 7 (#[true, true, true, true, true, true, true, true, true, false]) rfl (by kernel_rfl) (by kernel_rfl) rfl rfl ?_
                  obtain ⟨b5, H905, H⟩ := bind_some H
                  refine eff_read rfl rfl (rv := .agg #[.int .i64 b5.Kind, str b5.Name, .int .i64 b5.Used]) (Ms' := (s903 :: [(g899, .cells #[.int .i64 0, str ([] : List UInt8), .int .i64 0] 31 (0, 0))] :: s29 :: [(g16, .cells #[.int .i64 b1.2.Map, str b1.2.Keys, str b1.2.Name] 25 (0, 0))] :: s50 :: Fs)) ok8 rfl rfl ?_ ?_
                  · refine Reads.lend (k := 1) rfl (fun J906 hJ907 hin908 => ?_)
                    exact Reads.of_meets (Mr := ([(g899, .cells #[.int .i64 0, str ([] : List UInt8), .int .i64 0] 31 (0, 0))] :: s29 :: [(g16, .cells #[.int .i64 b1.2.Map, str b1.2.Keys, str b1.2.Name] 25 (0, 0))] :: s50 :: Fs)) (show Meets Try.prog 8 ([.slice A901 (([] : List T_impl_Key) ++ b3).length c902, .int .i64 b1.2.Map, str b1.2.Keys] : List Value).toArray J906 [] _ from impl_KeyLook.calls (I0 := J906) H905 (ho904.rd hJ907 hin908)) (List.Perm.refl _)
                  refine at_xS (fun w hs => ⟨hs.var (k := 3) rfl 0 rfl, hs.var (k := 3) rfl 1 rfl⟩) ?_
                  refine at_x1 0 9 (#[true, true, true, true, true, true, true, true, true, true]) rfl (by kernel_rfl) (by kernel_rfl) rfl rfl ?_
                  refine eff_store 1 rfl rfl rfl rfl rfl rfl (.inl (Nat.le_refl _)) rfl (Nat.le_of_ble_eq_true (by kernel_rfl)) rfl ?_
                  refine at_xX (by kernel_rfl) ?_
                  refine at_xend (by kernel_rfl) ?_
                  refine at_thn ?_
                  refine at_join (fun L I Ms => ∃ (k1010 : Nat), L = [(4, .pointer (some ⟨g16, 0, none⟩)), (6, .slice A48 b3.length c49)] ∧ Ms = ([(g16, .cells #[.int .i64 b1.2.Map, str b1.2.Keys, str b1.2.Name] 25 (0, 0))] :: s50 :: Fs) ∧ laws_FnBind_j3 k1010 b1 b3 = some r ∧ ImmLe I0 I ∧ k1010 ≤ k258 ∧ Own k_impl_Key 25 I A48 c49 b3 s50) ?_ ?_
                  · clear H hle ho51 ho904
                    intro L I Ms h_; obtain ⟨k1010, hL_, hM_, H, hle, hk1011, ho51⟩ := h_; rw [hL_, hM_]; clear hL_ hM_ L Ms
                    rcases k1010 with _ | k1010
                    · exact (no_none H).elim
                    rw [laws_FnBind_j3] at H
                    refine at_seq ?_
                    refine at_x hmo (fun w => w.cell? ⟨g16, 0, none⟩ = some (.int .i64 b1.2.Map) ∧ w.cell? ⟨g16, 1, none⟩ = some (str b1.2.Keys)) [] ?_
                    refine at_xseg [1, 3, 4, 5, 6] 4 (#[false, true, false, true, true, true, true, false, false]) rfl (by kernel_rfl) [(4, .int .i64 b1.2.Map), (6, str b1.2.Keys)] [4, 6, 93, 96, 98] (L2 := [(4, .pointer (some ⟨g16, 0, none⟩)), (6, .slice A48 b3.length c49), (93, .slice A48 b3.length c49), (96, .int .i64 b1.2.Map), (98, str b1.2.Keys)]) (obs := [fun w => w.cell? ⟨g16, 0, none⟩ = some (.int .i64 b1.2.Map), fun w => w.cell? ⟨g16, 1, none⟩ = some (str b1.2.Keys)]) (by kernel_rfl) (by kernel_rfl) (by kernel_rfl) (.inr fun w hs => ⟨hs.var (k := 0) rfl 0 rfl, hs.var (k := 0) rfl 1 rfl⟩) (fun w hS => ⟨hS.1, hS.2⟩) (fun w hs => ⟨hs.var (k := 0) rfl 0 rfl, hs.var (k := 0) rfl 1 rfl⟩) ?_
                    refine at_x1 3 0 (#[true, true, false, true, true, true, true, false, false]) rfl (by kernel_rfl) (by kernel_rfl) rfl rfl ?_
                    refine eff_buildSlice (e := 25) (cells := #[]) ([] : List T_impl_Key).length rfl rfl rfl (by kernel_rfl) (fun g1012 => ?_)
                    have ho1013 := own_lit (K := k_impl_Key) (e := 25) (I := I) (xs := ([] : List T_impl_Key)) (css := []) (cells := #[]) (b := g1012) trivial rfl
                    refine at_xS (fun w hs => ⟨hs.var (k := 1) rfl 0 rfl, hs.var (k := 1) rfl 1 rfl⟩) ?_
                    refine at_x1 2 2 (#[true, true, true, true, true, true, true, false, false]) rfl (by kernel_rfl) (by kernel_rfl) rfl rfl ?_
                    obtain ⟨i_, hi_, hz_, hs_, hb_⟩ := info25
                    refine eff_append (K := k_impl_Key) (xs := ([] : List T_impl_Key)) (ys := b3) 0 rfl rfl rfl rfl rfl und23 und23 hi_ hz_ hs_ rfl rfl rfl ho1013 rfl (fun w hs => ho51.rowAt (k := 2) hs rfl) (by rw [hb_]; omega) (by omega) (fun A1014 c1015 s1016 ho1017 => ?_)
                    refine at_xS (fun w hs => ⟨hs.var (k := 1) rfl 0 rfl, hs.var (k := 1) rfl 1 rfl⟩) ?_
                    refine at_x1 1 7 (#[true, true, true, true, true, true, true, true, false]) rfl (by kernel_rfl) (by kernel_rfl) rfl rfl ?_
                    refine at_freeze (k := 0) rfl rfl (fun J1018 hJ1019 hin1020 => ?_)
                    replace hle := hle.trans hJ1019
                    replace ho1017 := ho1017.mono hJ1019
                    replace ho51 := ho51.mono hJ1019
                    have hr1021 := ho1017.rd (ImmLe.refl _) hin1020
                    obtain ⟨b6, H1022, H⟩ := bind_some H
                    have hm_ := impl_KeyDrop.calls (I0 := J1018) H1022 hr1021
                    refine eff_call rfl rfl ok9 rfl rfl (show Meets Try.prog 9 ([.slice A1014 (([] : List T_impl_Key) ++ b3).length c1015, .int .i64 b1.2.Map, str b1.2.Keys] : List Value).toArray _ [] _ from hm_) (Mr := ([(g16, .cells #[.int .i64 b1.2.Map, str b1.2.Keys, str b1.2.Name] 25 (0, 0))] :: s50 :: Fs)) (List.Perm.refl _) (fun v1023 J1024 M1025 hq1026 hJ1027 => ?_)
                    replace hle := hle.trans hJ1027
                    replace ho51 := ho51.mono hJ1027
                    replace hr1021 := hr1021.mono hJ1027
                    obtain ⟨A1028, c1029, s1030, rfl, rfl, ho1031⟩ := hq1026
                    refine at_xS (fun w hs => ⟨hs.var (k := 1) rfl 0 rfl, hs.var (k := 1) rfl 1 rfl⟩) ?_
                    refine at_xseg [8] 0 (#[true, true, true, true, true, true, true, true, true]) rfl (by kernel_rfl) [] [4, 6, 11] (L2 := [(4, .pointer (some ⟨g16, 0, none⟩)), (6, .slice A48 b3.length c49), (11, .slice A1028 b6.length c1029)]) (obs := []) (by kernel_rfl) (by kernel_rfl) (by kernel_rfl) (.inr fun w hs => ⟨hs.var (k := 1) rfl 0 rfl, hs.var (k := 1) rfl 1 rfl⟩) (fun w hS => trivial) (fun w hs => trivial) ?_
                    refine at_xend (by kernel_rfl) ?_
                    refine at_thn ?_
                    refine at_join (fun L I Ms => ∃ (k1133 : Nat), L = [(6, .slice A48 b3.length c49), (11, .slice A1028 b6.length c1029)] ∧ Ms = (s50 :: s1030 :: Fs) ∧ laws_FnBind_j4 k1133 b3 b6 = some r ∧ ImmLe I0 I ∧ k1133 ≤ k1010 ∧ Own k_impl_Key 25 I A1028 c1029 b6 s1030 ∧ Own k_impl_Key 25 I A48 c49 b3 s50) ?_ ?_
                    · clear H hle ho1031 ho51
                      intro L I Ms h_; obtain ⟨k1133, hL_, hM_, H, hle, hk1134, ho1031, ho51⟩ := h_; rw [hL_, hM_]; clear hL_ hM_ L Ms
                      rcases k1133 with _ | k1133
                      · exact (no_none H).elim
                      rw [laws_FnBind_j4] at H
                      refine at_seq ?_
                      refine at_ops [0, 1, 2, 3, 4, 5, 6, 7, 8, 9, 10, 11, 12] rfl ?_
                      by_cases h1135 : (b6.length : Int) = (IntKind.i64.wrap ((b3.length : Int) - 1))
                      · rw [if_pos h1135] at H
                        refine at_seg [0, 1, 2, 3, 4, 5, 6] [7, 8, 9, 10, 11, 12] rfl [(6, .bool true)] [11, 130] (L2 := [(11, .slice A1028 b6.length c1029), (130, .bool true)]) (obs := [fun _ => (.bool ((b6.length : Int) == (IntKind.i64.wrap ((b3.length : Int) - 1))) : Value) = .bool true]) (by kernel_rfl) ?_ ?_
                        · intro w hs; exact congrArg Value.bool (beq_iff_eq.2 h1135)
                        refine at_eff rfl rfl ?_
                        refine eff_buildSlice (e := 25) (cells := #[]) ([] : List T_impl_Key).length rfl rfl rfl (by kernel_rfl) (fun g1136 => ?_)
                        have ho1137 := own_lit (K := k_impl_Key) (e := 25) (I := I) (xs := ([] : List T_impl_Key)) (css := []) (cells := #[]) (b := g1136) trivial rfl
                        refine at_seg [8] [9, 10, 11, 12] rfl [] [130, 131, 132] (L2 := [(130, .bool true), (131, .slice (some ⟨g1136, 0, none⟩ : Option Addr) ([] : List T_impl_Key).length (([] : List T_impl_Key).length)), (132, .slice A1028 b6.length c1029)]) (obs := []) (by kernel_rfl) ?_ ?_
                        · intro w hs; exact trivial
                        refine at_eff rfl rfl ?_
                        obtain ⟨h1138, H⟩ := ite_some H
                        obtain ⟨i_, hi_, hz_, hs_, hb_⟩ := info25
                        refine eff_append (K := k_impl_Key) (xs := ([] : List T_impl_Key)) (ys := b6) 0 rfl rfl rfl rfl rfl und23 und23 hi_ hz_ hs_ rfl rfl rfl ho1137 rfl (fun w hs => ho1031.rowAt (k := 2) hs rfl) (by rw [hb_]; omega) (by omega) (fun A1139 c1140 s1141 ho1142 => ?_)
                        refine at_eff rfl rfl ?_
                        obtain ⟨b7, H1143, H⟩ := bind_some H
                        refine eff_read rfl rfl (rv := .bool b7) (Ms' := (s1141 :: s50 :: s1030 :: Fs)) ok10 rfl rfl ?_ ?_
                        · refine Reads.lend (k := 0) rfl (fun J1144 hJ1145 hin1146 => ?_)
                          exact Reads.of_meets (Mr := (s50 :: s1030 :: Fs)) (show Meets Try.prog 10 ([.slice A1139 (([] : List T_impl_Key) ++ b6).length c1140] : List Value).toArray J1144 [] _ from impl_KeysRight.calls (I0 := J1144) H1143 (ho1142.rd hJ1145 hin1146)) (List.Perm.refl _)
                        refine at_seg [11, 12] [] rfl [] [2] (L2 := [(2, .bool b7)]) (obs := []) (by kernel_rfl) ?_ ?_
                        · intro w hs; exact trivial
                        refine at_end ?_
                        refine at_thn ?_
                        refine at_ret ?_
                        obtain rfl := Option.some.inj H
                        refine at_drop (k := 0) rfl rfl ?_
                        refine at_drop (k := 0) rfl rfl ?_
                        refine at_drop (k := 0) rfl rfl ?_
                        refine at_done (vs := [.bool b7]) (obs := []) (.inl rfl) [.tmp 2] [] rfl (by kernel_rfl) (fun w hs => trivial) (fun w hs => ⟨_, _, [], rfl, ⟨rfl, rfl⟩, hle, hs⟩)
                      · rw [if_neg h1135] at H
                        refine at_seg [0, 1, 2, 3, 4, 5, 6] [7, 8, 9, 10, 11, 12] rfl [(6, .bool false)] [11, 130] (L2 := [(11, .slice A1028 b6.length c1029), (130, .bool false)]) (obs := [fun _ => (.bool ((b6.length : Int) == (IntKind.i64.wrap ((b3.length : Int) - 1))) : Value) = .bool false]) (by kernel_rfl) ?_ ?_
                        · intro w hs; exact congrArg Value.bool (beq_eq_false_iff_ne.2 h1135)
                        refine at_seg [7, 8] [9, 10, 11, 12] rfl [] [130, 131, 132] (L2 := [(130, .bool false), (131, undef), (132, undef)]) (obs := []) (by kernel_rfl) ?_ ?_
                        · intro w hs; exact trivial
                        refine at_seg [9] [10, 11, 12] rfl [] [130, 133] (L2 := [(130, .bool false), (133, undef)]) (obs := []) (by kernel_rfl) ?_ ?_
                        · intro w hs; exact trivial
                        refine at_seg [10, 11, 12] [] rfl [] [2] (L2 := [(2, .bool false)]) (obs := []) (by kernel_rfl) ?_ ?_
                        · intro w hs; exact trivial
                        refine at_end ?_
                        refine at_thn ?_
                        refine at_ret ?_
                        obtain rfl := Option.some.inj H
                        refine at_drop (k := 0) rfl rfl ?_
                        refine at_drop (k := 0) rfl rfl ?_
                        refine at_done (vs := [.bool false]) (obs := []) (.inl rfl) [.tmp 2] [] rfl (by kernel_rfl) (fun w hs => trivial) (fun w hs => ⟨_, _, [], rfl, ⟨rfl, rfl⟩, hle, hs⟩)
                    · intro Jn1032
                      refine at_seq ?_
                      refine at_reg [] [4, 6, 11, 12] (L2 := [(4, .pointer (some ⟨g16, 0, none⟩)), (6, .slice A48 b3.length c49), (11, .slice A1028 b6.length c1029), (12, .int .i64 0)]) (obs := []) (by kernel_rfl) ?_ ?_
                      · intro w hs; exact trivial
                      refine at_thn ?_
                      refine at_block ?_
                      refine at_perm ((perm_at (k := 1) rfl).trans (((perm_at (k := 1) rfl).trans ((List.Perm.refl _).cons _)).cons _)) ?_
                      refine at_keep [4, 6, 11, 12] (L2 := [(4, .pointer (some ⟨g16, 0, none⟩)), (6, .slice A48 b3.length c49), (11, .slice A1028 b6.length c1029), (12, .int .i64 0)]) rfl ?_
                      refine at_loop (fun k1148 L I Ms => ∃ (x1147 : Int), L = [(4, .pointer (some ⟨g16, 0, none⟩)), (6, .slice A48 b3.length c49), (11, .slice A1028 b6.length c1029), (12, .int .i64 x1147)] ∧ Ms = ([(g16, .cells #[.int .i64 b1.2.Map, str b1.2.Keys, str b1.2.Name] 25 (0, 0))] :: s50 :: s1030 :: Fs) ∧ laws_FnBind_l0 k1148 x1147 b1 b3 b6 = some r ∧ ImmLe I0 I ∧ k1148 ≤ k1010 ∧ Own k_impl_Key 25 I A1028 c1029 b6 s1030 ∧ Own k_impl_Key 25 I A48 c49 b3 s50) ?_ ?_ k1010 ⟨0, rfl, rfl, H, hle, Nat.le_refl _, ho1031, ho51⟩
                      · rintro L I Ms ⟨_, rfl, rfl, H, _⟩; exact no_none H
                      · clear H hle ho1031 ho51
                        intro k1148 ih1149 L I Ms h_; obtain ⟨x1147, hL_, hM_, H, hle, hk1150, ho1031, ho51⟩ := h_; rw [hL_, hM_]; clear hL_ hM_ L Ms
                        rw [laws_FnBind_l0] at H
                        refine at_seq ?_
                        refine at_seq ?_
                        refine at_reg [] [4, 6, 11, 12, 103] (L2 := [(4, .pointer (some ⟨g16, 0, none⟩)), (6, .slice A48 b3.length c49), (11, .slice A1028 b6.length c1029), (12, .int .i64 x1147), (103, .bool (decide (x1147 < (b6.length : Int))))]) (obs := []) (by kernel_rfl) ?_ ?_
                        · intro w hs; exact trivial
                        refine at_thn ?_
                        by_cases h1151 : x1147 < (b6.length : Int)
                        · rw [if_pos h1151] at H
                          refine at_cond_t rfl (decide_eq_true h1151) ?_
                          refine at_skip ?_
                          refine at_thn ?_
                          refine at_seq ?_
                          refine at_block ?_
                          refine at_seq ?_
                          obtain ⟨h1152, H⟩ := ite_some H
                          by_cases h1156 : ((rdA z_impl_Key b6 x1147).Map) = b1.2.Map
                          · rw [if_pos h1156] at H
                            obtain ⟨cs1158, hz1159, hc1157⟩ := ho1031.elem z_impl_Key x1147 h1152 h1151
                            obtain rfl := hz1159
                            refine at_regd hmo [(4, .int .i64 ((rdA z_impl_Key b6 x1147).Map)), (6, .int .i64 b1.2.Map), (8, .bool true), (13, str ((rdA z_impl_Key b6 x1147).Keys)), (15, str b1.2.Keys)] [4, 6, 11, 12, 123] (by kernel_rfl) (L2 := [(4, .pointer (some ⟨g16, 0, none⟩)), (6, .slice A48 b3.length c49), (11, .slice A1028 b6.length c1029), (12, .int .i64 x1147), (123, .bool (((rdA z_impl_Key b6 x1147).Keys) == b1.2.Keys))]) (obs := [fun _ => A1028.isSome = true ∧ 0 ≤ x1147 ∧ x1147 < ((b6.length : Nat) : Int), fun w => w.cell? (((A1028.getD ad0).add (x1147.toNat * 3)).add 0) = some (.int .i64 ((rdA z_impl_Key b6 x1147).Map)), fun w => w.cell? ⟨g16, 0, none⟩ = some (.int .i64 b1.2.Map), fun _ => (.bool (((rdA z_impl_Key b6 x1147).Map) == b1.2.Map) : Value) = .bool true, fun _ => A1028.isSome = true ∧ 0 ≤ x1147 ∧ x1147 < ((b6.length : Nat) : Int), fun w => w.cell? (((A1028.getD ad0).add (x1147.toNat * 3)).add 1) = some (str ((rdA z_impl_Key b6 x1147).Keys)), fun w => w.cell? ⟨g16, 1, none⟩ = some (str b1.2.Keys)]) (by kernel_rfl) ?_ ?_
                            · intro w hs; exact ⟨⟨ho1031.ne x1147 h1152 h1151, h1152, h1151⟩, hc1157 0 _ rfl hs (k := 2) rfl, hs.var (k := 0) rfl 0 rfl, congrArg Value.bool (beq_iff_eq.2 h1156), ⟨ho1031.ne x1147 h1152 h1151, h1152, h1151⟩, hc1157 1 _ rfl hs (k := 2) rfl, hs.var (k := 0) rfl 1 rfl⟩
                            refine at_thn ?_
                            by_cases h1160 : ((rdA z_impl_Key b6 x1147).Keys) = b1.2.Keys
                            · rw [if_pos h1160] at H
                              refine at_cond_t rfl (beq_iff_eq.2 h1160) ?_
                              refine at_seq ?_
                              refine at_reg [] [2] (L2 := [(2, .bool false)]) (obs := []) (by kernel_rfl) ?_ ?_
                              · intro w hs; exact trivial
                              refine at_thn ?_
                              refine at_ret ?_
                              refine at_in_ret ?_
                              refine at_then_ret ?_
                              refine at_then_ret ?_
                              refine at_in_ret ?_
                              refine at_then_ret ?_
                              obtain rfl := Option.some.inj H
                              refine at_drop (k := 0) rfl rfl ?_
                              refine at_drop (k := 0) rfl rfl ?_
                              refine at_drop (k := 0) rfl rfl ?_
                              refine at_done (vs := [.bool false]) (obs := []) (.inl rfl) [.tmp 2] [] rfl (by kernel_rfl) (fun w hs => trivial) (fun w hs => ⟨_, _, [], rfl, ⟨rfl, rfl⟩, hle, hs⟩)
                            · rw [if_neg h1160] at H
                              refine at_cond_f rfl (beq_eq_false_iff_ne.2 h1160) ?_
                              refine at_skip ?_
                              refine at_in_norm ?_
                              refine at_thn ?_
                              refine at_reg [] [4, 6, 11, 12] (L2 := [(4, .pointer (some ⟨g16, 0, none⟩)), (6, .slice A48 b3.length c49), (11, .slice A1028 b6.length c1029), (12, .int .i64 (IntKind.i64.wrap (x1147 + 1)))]) (obs := []) (by kernel_rfl) ?_ ?_
                              · intro w hs; exact trivial
                              refine at_thn ?_
                              refine at_keep [4, 6, 11, 12] (L2 := [(4, .pointer (some ⟨g16, 0, none⟩)), (6, .slice A48 b3.length c49), (11, .slice A1028 b6.length c1029), (12, .int .i64 (IntKind.i64.wrap (x1147 + 1)))]) rfl ?_
                              exact ih1149 _ (by omega) _ _ _ ⟨IntKind.i64.wrap (x1147 + 1), rfl, rfl, H, hle, by omega, ho1031, ho51⟩
                          · rw [if_neg h1156] at H
                            obtain ⟨cs1162, hz1163, hc1161⟩ := ho1031.elem z_impl_Key x1147 h1152 h1151
                            obtain rfl := hz1163
                            refine at_regd hmo [(4, .int .i64 ((rdA z_impl_Key b6 x1147).Map)), (6, .int .i64 b1.2.Map), (8, .bool false)] [4, 6, 11, 12, 123] (by kernel_rfl) (L2 := [(4, .pointer (some ⟨g16, 0, none⟩)), (6, .slice A48 b3.length c49), (11, .slice A1028 b6.length c1029), (12, .int .i64 x1147), (123, .bool false)]) (obs := [fun _ => A1028.isSome = true ∧ 0 ≤ x1147 ∧ x1147 < ((b6.length : Nat) : Int), fun w => w.cell? (((A1028.getD ad0).add (x1147.toNat * 3)).add 0) = some (.int .i64 ((rdA z_impl_Key b6 x1147).Map)), fun w => w.cell? ⟨g16, 0, none⟩ = some (.int .i64 b1.2.Map), fun _ => (.bool (((rdA z_impl_Key b6 x1147).Map) == b1.2.Map) : Value) = .bool false]) (by kernel_rfl) ?_ ?_
                            · intro w hs; exact ⟨⟨ho1031.ne x1147 h1152 h1151, h1152, h1151⟩, hc1161 0 _ rfl hs (k := 2) rfl, hs.var (k := 0) rfl 0 rfl, congrArg Value.bool (beq_eq_false_iff_ne.2 h1156)⟩
                            refine at_thn ?_
                            refine at_cond_f rfl (rfl) ?_
                            refine at_skip ?_
                            refine at_in_norm ?_
                            refine at_thn ?_
                            refine at_reg [] [4, 6, 11, 12] (L2 := [(4, .pointer (some ⟨g16, 0, none⟩)), (6, .slice A48 b3.length c49), (11, .slice A1028 b6.length c1029), (12, .int .i64 (IntKind.i64.wrap (x1147 + 1)))]) (obs := []) (by kernel_rfl) ?_ ?_
                            · intro w hs; exact trivial
                            refine at_thn ?_
                            refine at_keep [4, 6, 11, 12] (L2 := [(4, .pointer (some ⟨g16, 0, none⟩)), (6, .slice A48 b3.length c49), (11, .slice A1028 b6.length c1029), (12, .int .i64 (IntKind.i64.wrap (x1147 + 1)))]) rfl ?_
                            exact ih1149 _ (by omega) _ _ _ ⟨IntKind.i64.wrap (x1147 + 1), rfl, rfl, H, hle, by omega, ho1031, ho51⟩
                        · rw [if_neg h1151] at H
                          refine at_cond_f rfl (decide_eq_false h1151) ?_
                          refine at_exit ?_
                          refine at_then_exit ?_
                          refine at_then_exit ?_
                          refine at_in_hit ?_
                          refine at_thn ?_
                          refine at_drop (k := 0) rfl rfl ?_
                          refine at_keep [6, 11] (L2 := [(6, .slice A48 b3.length c49), (11, .slice A1028 b6.length c1029)]) rfl ?_
                          exact Jn1032 _ _ _ ⟨_, rfl, rfl, H, hle, by omega, ho1031, ho51⟩
                  · intro Jn909
                    refine at_seq ?_
                    refine at_ops [0, 1, 2, 3, 4, 5, 6, 7, 8, 9, 10, 11, 12] rfl ?_
                    refine at_seg [0, 1, 2, 3, 4, 5, 6] [7, 8, 9, 10, 11, 12] rfl [(0, .agg #[.int .i64 b5.Kind, str b5.Name, .int .i64 b5.Used]), (2, str b1.2.Name), (4, str b1.2.Keys)] [4, 6, 10, 79, 85] (L2 := [(4, .pointer (some ⟨g16, 0, none⟩)), (6, .slice A48 b3.length c49), (10, .pointer (some ⟨g899, 0, none⟩)), (79, .agg #[.int .i64 b5.Kind, str b5.Name, .int .i64 b5.Used]), (85, .agg #[.int .i64 3, str b1.2.Name, .int .i64 (b1.2.Keys.length : Int)])]) (obs := [fun w => CellsAt w ⟨g899, 0, none⟩ [.int .i64 b5.Kind, str b5.Name, .int .i64 b5.Used] 0, fun w => w.cell? ⟨g16, 2, none⟩ = some (str b1.2.Name), fun w => w.cell? ⟨g16, 1, none⟩ = some (str b1.2.Keys)]) (by kernel_rfl) ?_ ?_
                    · intro w hs; exact ⟨cellsV (k := 1) hs rfl _ 0 (Nat.le_of_ble_eq_true (by kernel_rfl)) rfl, hs.var (k := 3) rfl 2 rfl, hs.var (k := 3) rfl 1 rfl⟩
                    refine at_eff rfl rfl ?_
                    refine eff_neAgg (b := ((b5.Kind == 3) && ((b5.Name == b1.2.Name) && ((b5.Used == (b1.2.Keys.length : Int)) && true)))) 4 rfl rfl (by decide) (by kernel_rfl) rfl rfl (by kernel_rfl) ?_
                    by_cases h1164 : ((b5.Kind == 3) && ((b5.Name == b1.2.Name) && ((b5.Used == (b1.2.Keys.length : Int)) && true))) = true
                    · rw [if_pos h1164] at H
                      refine at_seg [8, 9, 10, 11, 12] [] rfl [(8, .bool false)] [4, 6, 91] (L2 := [(4, .pointer (some ⟨g16, 0, none⟩)), (6, .slice A48 b3.length c49), (91, .bool false)]) (obs := [fun _ => (.bool (!((b5.Kind == 3) && ((b5.Name == b1.2.Name) && ((b5.Used == (b1.2.Keys.length : Int)) && true)))) : Value) = .bool false]) (by kernel_rfl) ?_ ?_
                      · intro w hs; exact congrArg Value.bool (not_ff (h1164))
                      refine at_end ?_
                      refine at_thn ?_
                      refine at_cond_f rfl (rfl) ?_
                      refine at_skip ?_
                      refine at_thn ?_
                      refine at_drop (k := 0) rfl rfl ?_
                      refine at_drop (k := 0) rfl rfl ?_
                      refine at_drop (k := 0) rfl rfl ?_
                      refine at_keep [4, 6] (L2 := [(4, .pointer (some ⟨g16, 0, none⟩)), (6, .slice A48 b3.length c49)]) rfl ?_
                      exact Jn909 _ _ _ ⟨_, rfl, rfl, H, hle, by omega, ho51⟩
                    · rw [if_neg h1164] at H
                      refine at_seg [8, 9, 10, 11, 12] [] rfl [(8, .bool true), (10, .int .i64 b5.Kind)] [4, 6, 91] (L2 := [(4, .pointer (some ⟨g16, 0, none⟩)), (6, .slice A48 b3.length c49), (91, .bool (b5.Kind != 2))]) (obs := [fun _ => (.bool (!((b5.Kind == 3) && ((b5.Name == b1.2.Name) && ((b5.Used == (b1.2.Keys.length : Int)) && true)))) : Value) = .bool true, fun w => w.cell? ⟨g899, 0, none⟩ = some (.int .i64 b5.Kind)]) (by kernel_rfl) ?_ ?_
                      · intro w hs; exact ⟨congrArg Value.bool (not_tt (ff_of h1164)), hs.var (k := 1) rfl 0 rfl⟩
                      refine at_end ?_
                      refine at_thn ?_
                      by_cases h1165 : b5.Kind = 2
                      · rw [if_pos h1165] at H
                        refine at_cond_f rfl (bne_eq_false_iff_eq.2 h1165) ?_
                        refine at_skip ?_
                        refine at_thn ?_
                        refine at_drop (k := 0) rfl rfl ?_
                        refine at_drop (k := 0) rfl rfl ?_
                        refine at_drop (k := 0) rfl rfl ?_
                        refine at_keep [4, 6] (L2 := [(4, .pointer (some ⟨g16, 0, none⟩)), (6, .slice A48 b3.length c49)]) rfl ?_
                        exact Jn909 _ _ _ ⟨_, rfl, rfl, H, hle, by omega, ho51⟩
                      · rw [if_neg h1165] at H
                        refine at_cond_t rfl (bne_iff_ne.2 h1165) ?_
                        refine at_seq ?_
                        refine at_reg [] [2] (L2 := [(2, .bool false)]) (obs := []) (by kernel_rfl) ?_ ?_
                        · intro w hs; exact trivial
                        refine at_thn ?_
                        refine at_ret ?_
                        refine at_then_ret ?_
                        obtain rfl := Option.some.inj H
                        refine at_drop (k := 0) rfl rfl ?_
                        refine at_drop (k := 0) rfl rfl ?_
                        refine at_drop (k := 0) rfl rfl ?_
                        refine at_drop (k := 0) rfl rfl ?_
                        refine at_drop (k := 0) rfl rfl ?_
                        refine at_done (vs := [.bool false]) (obs := []) (.inl rfl) [.tmp 2] [] rfl (by kernel_rfl) (fun w hs => trivial) (fun w hs => ⟨_, _, [], rfl, ⟨rfl, rfl⟩, hle, hs⟩)
              · refine at_xone (#[false, true, false, true, true, true, true, false, true, false]) (by kernel_rfl) rfl rfl ?_
                obtain ⟨i_, hi_, hz_, _, _⟩ := info31
                refine eff_alloc rfl rfl hi_ hz_ #[.int .i64 0, str ([] : List UInt8), .int .i64 0] rfl (fun g1166 => ?_)
                refine at_xS (fun w hs => ⟨hs.var (k := 2) rfl 0 rfl, hs.var (k := 2) rfl 1 rfl⟩) ?_
                refine at_x1 3 0 (#[true, true, false, true, true, true, true, false, true, false]) rfl (by kernel_rfl) (by kernel_rfl) rfl rfl ?_
                refine eff_buildSlice (e := 25) (cells := #[]) ([] : List T_impl_Key).length rfl rfl rfl (by kernel_rfl) (fun g1167 => ?_)
                have ho1168 := own_lit (K := k_impl_Key) (e := 25) (I := I) (xs := ([] : List T_impl_Key)) (css := []) (cells := #[]) (b := g1167) trivial rfl
                refine at_xS (fun w hs => ⟨hs.var (k := 3) rfl 0 rfl, hs.var (k := 3) rfl 1 rfl⟩) ?_
                refine at_x1 2 2 (#[true, true, true, true, true, true, true, false, true, false]) rfl (by kernel_rfl) (by kernel_rfl) rfl rfl ?_
                obtain ⟨h1169, H⟩ := ite_some H
                obtain ⟨i_, hi_, hz_, hs_, hb_⟩ := info25
                refine eff_append (K := k_impl_Key) (xs := ([] : List T_impl_Key)) (ys := b3) 0 rfl rfl rfl rfl rfl und23 und23 hi_ hz_ hs_ rfl rfl rfl ho1168 rfl (fun w hs => ho51.rowAt (k := 4) hs rfl) (by rw [hb_]; omega) (by omega) (fun A1170 c1171 s1172 ho1173 => ?_)
                refine at_xS (fun w hs => ⟨hs.var (k := 3) rfl 0 rfl, hs.var (k := 3) rfl 1 rfl⟩) ?_
                refine at_x1 1 7 (#[true, true, true, true, true, true, true, true, true, false]) rfl (by kernel_rfl) (by kernel_rfl) rfl rfl ?_
                obtain ⟨b5, H1174, H⟩ := bind_some H
                refine eff_read rfl rfl (rv := .agg #[.int .i64 b5.Kind, str b5.Name, .int .i64 b5.Used]) (Ms' := (s1172 :: [(g1166, .cells #[.int .i64 0, str ([] : List UInt8), .int .i64 0] 31 (0, 0))] :: s29 :: [(g16, .cells #[.int .i64 b1.2.Map, str b1.2.Keys, str b1.2.Name] 25 (0, 0))] :: s50 :: Fs)) ok8 rfl rfl ?_ ?_
                · refine Reads.lend (k := 0) rfl (fun J1175 hJ1176 hin1177 => ?_)
                  exact Reads.of_meets (Mr := ([(g1166, .cells #[.int .i64 0, str ([] : List UInt8), .int .i64 0] 31 (0, 0))] :: s29 :: [(g16, .cells #[.int .i64 b1.2.Map, str b1.2.Keys, str b1.2.Name] 25 (0, 0))] :: s50 :: Fs)) (show Meets Try.prog 8 ([.slice A1170 (([] : List T_impl_Key) ++ b3).length c1171, .int .i64 b1.2.Map, str b1.2.Keys] : List Value).toArray J1175 [] _ from impl_KeyLook.calls (I0 := J1175) H1174 (ho1173.rd hJ1176 hin1177)) (List.Perm.refl _)
                refine at_xS (fun w hs => ⟨hs.var (k := 3) rfl 0 rfl, hs.var (k := 3) rfl 1 rfl⟩) ?_
                refine at_x1 0 9 (#[true, true, true, true, true, true, true, true, true, true]) rfl (by kernel_rfl) (by kernel_rfl) rfl rfl ?_
                refine eff_store 1 rfl rfl rfl rfl rfl rfl (.inl (Nat.le_refl _)) rfl (Nat.le_of_ble_eq_true (by kernel_rfl)) rfl ?_
                refine at_xX (by kernel_rfl) ?_
                refine at_xend (by kernel_rfl) ?_
                refine at_thn ?_
                refine at_join (fun L I Ms => ∃ (k1279 : Nat), L = [(4, .pointer (some ⟨g16, 0, none⟩)), (6, .slice A48 b3.length c49)] ∧ Ms = ([(g16, .cells #[.int .i64 b1.2.Map, str b1.2.Keys, str b1.2.Name] 25 (0, 0))] :: s50 :: Fs) ∧ laws_FnBind_j3 k1279 b1 b3 = some r ∧ ImmLe I0 I ∧ k1279 ≤ k258 ∧ Own k_impl_Key 25 I A48 c49 b3 s50) ?_ ?_
                · clear H hle ho1173 ho51
                  intro L I Ms h_; obtain ⟨k1279, hL_, hM_, H, hle, hk1280, ho51⟩ := h_; rw [hL_, hM_]; clear hL_ hM_ L Ms
                  rcases k1279 with _ | k1279
                  · exact (no_none H).elim
                  rw [laws_FnBind_j3] at H
                  refine at_seq ?_
                  refine at_x hmo (fun w => w.cell? ⟨g16, 0, none⟩ = some (.int .i64 b1.2.Map) ∧ w.cell? ⟨g16, 1, none⟩ = some (str b1.2.Keys)) [] ?_
                  refine at_xseg [1, 3, 4, 5, 6] 4 (#[false, true, false, true, true, true, true, false, false]) rfl (by kernel_rfl) [(4, .int .i64 b1.2.Map), (6, str b1.2.Keys)] [4, 6, 93, 96, 98] (L2 := [(4, .pointer (some ⟨g16, 0, none⟩)), (6, .slice A48 b3.length c49), (93, .slice A48 b3.length c49), (96, .int .i64 b1.2.Map), (98, str b1.2.Keys)]) (obs := [fun w => w.cell? ⟨g16, 0, none⟩ = some (.int .i64 b1.2.Map), fun w => w.cell? ⟨g16, 1, none⟩ = some (str b1.2.Keys)]) (by kernel_rfl) (by kernel_rfl) (by kernel_rfl) (.inr fun w hs => ⟨hs.var (k := 0) rfl 0 rfl, hs.var (k := 0) rfl 1 rfl⟩) (fun w hS => ⟨hS.1, hS.2⟩) (fun w hs => ⟨hs.var (k := 0) rfl 0 rfl, hs.var (k := 0) rfl 1 rfl⟩) ?_
                  refine at_x1 3 0 (#[true, true, false, true, true, true, true, false, false]) rfl (by kernel_rfl) (by kernel_rfl) rfl rfl ?_
                  refine eff_buildSlice (e := 25) (cells := #[]) ([] : List T_impl_Key).length rfl rfl rfl (by kernel_rfl) (fun g1281 => ?_)
                  have ho1282 := own_lit (K := k_impl_Key) (e := 25) (I := I) (xs := ([] : List T_impl_Key)) (css := []) (cells := #[]) (b := g1281) trivial rfl
                  refine at_xS (fun w hs => ⟨hs.var (k := 1) rfl 0 rfl, hs.var (k := 1) rfl 1 rfl⟩) ?_
                  refine at_x1 2 2 (#[true, true, true, true, true, true, true, false, false]) rfl (by kernel_rfl) (by kernel_rfl) rfl rfl ?_
                  obtain ⟨i_, hi_, hz_, hs_, hb_⟩ := info25
                  refine eff_append (K := k_impl_Key) (xs := ([] : List T_impl_Key)) (ys := b3) 0 rfl rfl rfl rfl rfl und23 und23 hi_ hz_ hs_ rfl rfl rfl ho1282 rfl (fun w hs => ho51.rowAt (k := 2) hs rfl) (by rw [hb_]; omega) (by omega) (fun A1283 c1284 s1285 ho1286 => ?_)
                  refine at_xS (fun w hs => ⟨hs.var (k := 1) rfl 0 rfl, hs.var (k := 1) rfl 1 rfl⟩) ?_
                  refine at_x1 1 7 (#[true, true, true, true, true, true, true, true, false]) rfl (by kernel_rfl) (by kernel_rfl) rfl rfl ?_
                  refine at_freeze (k := 0) rfl rfl (fun J1287 hJ1288 hin1289 => ?_)
                  replace hle := hle.trans hJ1288
                  replace ho1286 := ho1286.mono hJ1288
                  replace ho51 := ho51.mono hJ1288
                  have hr1290 := ho1286.rd (ImmLe.refl _) hin1289
                  obtain ⟨b6, H1291, H⟩ := bind_some H
                  have hm_ := impl_KeyDrop.calls (I0 := J1287) H1291 hr1290
                  refine eff_call rfl rfl ok9 rfl rfl (show Meets Try.prog 9 ([.slice A1283 (([] : List T_impl_Key) ++ b3).length c1284, .int .i64 b1.2.Map, str b1.2.Keys] : List Value).toArray _ [] _ from hm_) (Mr := ([(g16, .cells #[.int .i64 b1.2.Map, str b1.2.Keys, str b1.2.Name] 25 (0, 0))] :: s50 :: Fs)) (List.Perm.refl _) (fun v1292 J1293 M1294 hq1295 hJ1296 => ?_)
                  replace hle := hle.trans hJ1296
                  replace ho51 := ho51.mono hJ1296
                  replace hr1290 := hr1290.mono hJ1296
                  obtain ⟨A1297, c1298, s1299, rfl, rfl, ho1300⟩ := hq1295
                  refine at_xS (fun w hs => ⟨hs.var (k := 1) rfl 0 rfl, hs.var (k := 1) rfl 1 rfl⟩) ?_
                  refine at_xseg [8] 0 (#[true, true, true, true, true, true, true, true, true]) rfl (by kernel_rfl) [] [4, 6, 11] (L2 := [(4, .pointer (some ⟨g16, 0, none⟩)), (6, .slice A48 b3.length c49), (11, .slice A1297 b6.length c1298)]) (obs := []) (by kernel_rfl) (by kernel_rfl) (by kernel_rfl) (.inr fun w hs => ⟨hs.var (k := 1) rfl 0 rfl, hs.var (k := 1) rfl 1 rfl⟩) (fun w hS => trivial) (fun w hs => trivial) ?_
                  refine at_xend (by kernel_rfl) ?_
                  refine at_thn ?_
                  refine at_join (fun L I Ms => ∃ (k1402 : Nat), L = [(6, .slice A48 b3.length c49), (11, .slice A1297 b6.length c1298)] ∧ Ms = (s50 :: s1299 :: Fs) ∧ laws_FnBind_j4 k1402 b3 b6 = some r ∧ ImmLe I0 I ∧ k1402 ≤ k1279 ∧ Own k_impl_Key 25 I A1297 c1298 b6 s1299 ∧ Own k_impl_Key 25 I A48 c49 b3 s50) ?_ ?_
                  · clear H hle ho1300 ho51
                    intro L I Ms h_; obtain ⟨k1402, hL_, hM_, H, hle, hk1403, ho1300, ho51⟩ := h_; rw [hL_, hM_]; clear hL_ hM_ L Ms
                    rcases k1402 with _ | k1402
                    · exact (no_none H).elim
                    rw [laws_FnBind_j4] at H
                    refine at_seq ?_
                    refine at_ops [0, 1, 2, 3, 4, 5, 6, 7, 8, 9, 10, 11, 12] rfl ?_
                    by_cases h1404 : (b6.length : Int) = (IntKind.i64.wrap ((b3.length : Int) - 1))
                    · rw [if_pos h1404] at H
                      refine at_seg [0, 1, 2, 3, 4, 5, 6] [7, 8, 9, 10, 11, 12] rfl [(6, .bool true)] [11, 130] (L2 := [(11, .slice A1297 b6.length c1298), (130, .bool true)]) (obs := [fun _ => (.bool ((b6.length : Int) == (IntKind.i64.wrap ((b3.length : Int) - 1))) : Value) = .bool true]) (by kernel_rfl) ?_ ?_
                      · intro w hs; exact congrArg Value.bool (beq_iff_eq.2 h1404)
                      refine at_eff rfl rfl ?_
                      refine eff_buildSlice (e := 25) (cells := #[]) ([] : List T_impl_Key).length rfl rfl rfl (by kernel_rfl) (fun g1405 => ?_)
                      have ho1406 := own_lit (K := k_impl_Key) (e := 25) (I := I) (xs := ([] : List T_impl_Key)) (css := []) (cells := #[]) (b := g1405) trivial rfl
                      refine at_seg [8] [9, 10, 11, 12] rfl [] [130, 131, 132] (L2 := [(130, .bool true), (131, .slice (some ⟨g1405, 0, none⟩ : Option Addr) ([] : List T_impl_Key).length (([] : List T_impl_Key).length)), (132, .slice A1297 b6.length c1298)]) (obs := []) (by kernel_rfl) ?_ ?_
                      · intro w hs; exact trivial
                      refine at_eff rfl rfl ?_
                      obtain ⟨h1407, H⟩ := ite_some H
                      obtain ⟨i_, hi_, hz_, hs_, hb_⟩ := info25
                      refine eff_append (K := k_impl_Key) (xs := ([] : List T_impl_Key)) (ys := b6) 0 rfl rfl rfl rfl rfl und23 und23 hi_ hz_ hs_ rfl rfl rfl ho1406 rfl (fun w hs => ho1300.rowAt (k := 2) hs rfl) (by rw [hb_]; omega) (by omega) (fun A1408 c1409 s1410 ho1411 => ?_)
                      refine at_eff rfl rfl ?_
                      obtain ⟨b7, H1412, H⟩ := bind_some H
                      refine eff_read rfl rfl (rv := .bool b7) (Ms' := (s1410 :: s50 :: s1299 :: Fs)) ok10 rfl rfl ?_ ?_
                      · refine Reads.lend (k := 0) rfl (fun J1413 hJ1414 hin1415 => ?_)
                        exact Reads.of_meets (Mr := (s50 :: s1299 :: Fs)) (show Meets Try.prog 10 ([.slice A1408 (([] : List T_impl_Key) ++ b6).length c1409] : List Value).toArray J1413 [] _ from impl_KeysRight.calls (I0 := J1413) H1412 (ho1411.rd hJ1414 hin1415)) (List.Perm.refl _)
                      refine at_seg [11, 12] [] rfl [] [2] (L2 := [(2, .bool b7)]) (obs := []) (by kernel_rfl) ?_ ?_
                      · intro w hs; exact trivial
                      refine at_end ?_
                      refine at_thn ?_
                      refine at_ret ?_
                      obtain rfl := Option.some.inj H
                      refine at_drop (k := 0) rfl rfl ?_
                      refine at_drop (k := 0) rfl rfl ?_
                      refine at_drop (k := 0) rfl rfl ?_
                      refine at_done (vs := [.bool b7]) (obs := []) (.inl rfl) [.tmp 2] [] rfl (by kernel_rfl) (fun w hs => trivial) (fun w hs => ⟨_, _, [], rfl, ⟨rfl, rfl⟩, hle, hs⟩)
                    · rw [if_neg h1404] at H
                      refine at_seg [0, 1, 2, 3, 4, 5, 6] [7, 8, 9, 10, 11, 12] rfl [(6, .bool false)] [11, 130] (L2 := [(11, .slice A1297 b6.length c1298), (130, .bool false)]) (obs := [fun _ => (.bool ((b6.length : Int) == (IntKind.i64.wrap ((b3.length : Int) - 1))) : Value) = .bool false]) (by kernel_rfl) ?_ ?_
                      · intro w hs; exact congrArg Value.bool (beq_eq_false_iff_ne.2 h1404)
                      refine at_seg [7, 8] [9, 10, 11, 12] rfl [] [130, 131, 132] (L2 := [(130, .bool false), (131, undef), (132, undef)]) (obs := []) (by kernel_rfl) ?_ ?_
                      · intro w hs; exact trivial
                      refine at_seg [9] [10, 11, 12] rfl [] [130, 133] (L2 := [(130, .bool false), (133, undef)]) (obs := []) (by kernel_rfl) ?_ ?_
                      · intro w hs; exact trivial
                      refine at_seg [10, 11, 12] [] rfl [] [2] (L2 := [(2, .bool false)]) (obs := []) (by kernel_rfl) ?_ ?_
                      · intro w hs; exact trivial
                      refine at_end ?_
                      refine at_thn ?_
                      refine at_ret ?_
                      obtain rfl := Option.some.inj H
                      refine at_drop (k := 0) rfl rfl ?_
                      refine at_drop (k := 0) rfl rfl ?_
                      refine at_done (vs := [.bool false]) (obs := []) (.inl rfl) [.tmp 2] [] rfl (by kernel_rfl) (fun w hs => trivial) (fun w hs => ⟨_, _, [], rfl, ⟨rfl, rfl⟩, hle, hs⟩)
                  · intro Jn1301
                    refine at_seq ?_
                    refine at_reg [] [4, 6, 11, 12] (L2 := [(4, .pointer (some ⟨g16, 0, none⟩)), (6, .slice A48 b3.length c49), (11, .slice A1297 b6.length c1298), (12, .int .i64 0)]) (obs := []) (by kernel_rfl) ?_ ?_
                    · intro w hs; exact trivial
                    refine at_thn ?_
                    refine at_block ?_
                    refine at_perm ((perm_at (k := 1) rfl).trans (((perm_at (k := 1) rfl).trans ((List.Perm.refl _).cons _)).cons _)) ?_
                    refine at_keep [4, 6, 11, 12] (L2 := [(4, .pointer (some ⟨g16, 0, none⟩)), (6, .slice A48 b3.length c49), (11, .slice A1297 b6.length c1298), (12, .int .i64 0)]) rfl ?_
                    refine at_loop (fun k1417 L I Ms => ∃ (x1416 : Int), L = [(4, .pointer (some ⟨g16, 0, none⟩)), (6, .slice A48 b3.length c49), (11, .slice A1297 b6.length c1298), (12, .int .i64 x1416)] ∧ Ms = ([(g16, .cells #[.int .i64 b1.2.Map, str b1.2.Keys, str b1.2.Name] 25 (0, 0))] :: s50 :: s1299 :: Fs) ∧ laws_FnBind_l0 k1417 x1416 b1 b3 b6 = some r ∧ ImmLe I0 I ∧ k1417 ≤ k1279 ∧ Own k_impl_Key 25 I A1297 c1298 b6 s1299 ∧ Own k_impl_Key 25 I A48 c49 b3 s50) ?_ ?_ k1279 ⟨0, rfl, rfl, H, hle, Nat.le_refl _, ho1300, ho51⟩
                    · rintro L I Ms ⟨_, rfl, rfl, H, _⟩; exact no_none H
                    · clear H hle ho1300 ho51
                      intro k1417 ih1418 L I Ms h_; obtain ⟨x1416, hL_, hM_, H, hle, hk1419, ho1300, ho51⟩ := h_; rw [hL_, hM_]; clear hL_ hM_ L Ms
                      rw [laws_FnBind_l0] at H
                      refine at_seq ?_
                      refine at_seq ?_
                      refine at_reg [] [4, 6, 11, 12, 103] (L2 := [(4, .pointer (some ⟨g16, 0, none⟩)), (6, .slice A48 b3.length c49), (11, .slice A1297 b6.length c1298), (12, .int .i64 x1416), (103, .bool (decide (x1416 < (b6.length : Int))))]) (obs := []) (by kernel_rfl) ?_ ?_
                      · intro w hs; exact trivial
                      refine at_thn ?_
                      by_cases h1420 : x1416 < (b6.length : Int)
                      · rw [if_pos h1420] at H
                        refine at_cond_t rfl (decide_eq_true h1420) ?_
                        refine at_skip ?_
                        refine at_thn ?_
                        refine at_seq ?_
                        refine at_block ?_
                        refine at_seq ?_
                        obtain ⟨h1421, H⟩ := ite_some H
                        by_cases h1425 : ((rdA z_impl_Key b6 x1416).Map) = b1.2.Map
                        · rw [if_pos h1425] at H
                          obtain ⟨cs1427, hz1428, hc1426⟩ := ho1300.elem z_impl_Key x1416 h1421 h1420
                          obtain rfl := hz1428
                          refine at_regd hmo [(4, .int .i64 ((rdA z_impl_Key b6 x1416).Map)), (6, .int .i64 b1.2.Map), (8, .bool true), (13, str ((rdA z_impl_Key b6 x1416).Keys)), (15, str b1.2.Keys)] [4, 6, 11, 12, 123] (by kernel_rfl) (L2 := [(4, .pointer (some ⟨g16, 0, none⟩)), (6, .slice A48 b3.length c49), (11, .slice A1297 b6.length c1298), (12, .int .i64 x1416), (123, .bool (((rdA z_impl_Key b6 x1416).Keys) == b1.2.Keys))]) (obs := [fun _ => A1297.isSome = true ∧ 0 ≤ x1416 ∧ x1416 < ((b6.length : Nat) : Int), fun w => w.cell? (((A1297.getD ad0).add (x1416.toNat * 3)).add 0) = some (.int .i64 ((rdA z_impl_Key b6 x1416).Map)), fun w => w.cell? ⟨g16, 0, none⟩ = some (.int .i64 b1.2.Map), fun _ => (.bool (((rdA z_impl_Key b6 x1416).Map) == b1.2.Map) : Value) = .bool true, fun _ => A1297.isSome = true ∧ 0 ≤ x1416 ∧ x1416 < ((b6.length : Nat) : Int), fun w => w.cell? (((A1297.getD ad0).add (x1416.toNat * 3)).add 1) = some (str ((rdA z_impl_Key b6 x1416).Keys)), fun w => w.cell? ⟨g16, 1, none⟩ = some (str b1.2.Keys)]) (by kernel_rfl) ?_ ?_
                          · intro w hs; exact ⟨⟨ho1300.ne x1416 h1421 h1420, h1421, h1420⟩, hc1426 0 _ rfl hs (k := 2) rfl, hs.var (k := 0) rfl 0 rfl, congrArg Value.bool (beq_iff_eq.2 h1425), ⟨ho1300.ne x1416 h1421 h1420, h1421, h1420⟩, hc1426 1 _ rfl hs (k := 2) rfl, hs.var (k := 0) rfl 1 rfl⟩
                          refine at_thn ?_
                          by_cases h1429 : ((rdA z_impl_Key b6 x1416).Keys) = b1.2.Keys
                          · rw [if_pos h1429] at H
                            refine at_cond_t rfl (beq_iff_eq.2 h1429) ?_
                            refine at_seq ?_
                            refine at_reg [] [2] (L2 := [(2, .bool false)]) (obs := []) (by kernel_rfl) ?_ ?_
                            · intro w hs; exact trivial
                            refine at_thn ?_
                            refine at_ret ?_
                            refine at_in_ret ?_
                            refine at_then_ret ?_
                            refine at_then_ret ?_
                            refine at_in_ret ?_
                            refine at_then_ret ?_
                            obtain rfl := Option.some.inj H
                            refine at_drop (k := 0) rfl rfl ?_
                            refine at_drop (k := 0) rfl rfl ?_
                            refine at_drop (k := 0) rfl rfl ?_
                            refine at_done (vs := [.bool false]) (obs := []) (.inl rfl) [.tmp 2] [] rfl (by kernel_rfl) (fun w hs => trivial) (fun w hs => ⟨_, _, [], rfl, ⟨rfl, rfl⟩, hle, hs⟩)
                          · rw [if_neg h1429] at H
                            refine at_cond_f rfl (beq_eq_false_iff_ne.2 h1429) ?_
                            refine at_skip ?_
                            refine at_in_norm ?_
                            refine at_thn ?_
                            refine at_reg [] [4, 6, 11, 12] (L2 := [(4, .pointer (some ⟨g16, 0, none⟩)), (6, .slice A48 b3.length c49), (11, .slice A1297 b6.length c1298), (12, .int .i64 (IntKind.i64.wrap (x1416 + 1)))]) (obs := []) (by kernel_rfl) ?_ ?_
                            · intro w hs; exact trivial
                            refine at_thn ?_
                            refine at_keep [4, 6, 11, 12] (L2 := [(4, .pointer (some ⟨g16, 0, none⟩)), (6, .slice A48 b3.length c49), (11, .slice A1297 b6.length c1298), (12, .int .i64 (IntKind.i64.wrap (x1416 + 1)))]) rfl ?_
                            exact ih1418 _ (by omega) _ _ _ ⟨IntKind.i64.wrap (x1416 + 1), rfl, rfl, H, hle, by omega, ho1300, ho51⟩
                        · rw [if_neg h1425] at H
                          obtain ⟨cs1431, hz1432, hc1430⟩ := ho1300.elem z_impl_Key x1416 h1421 h1420
                          obtain rfl := hz1432
                          refine at_regd hmo [(4, .int .i64 ((rdA z_impl_Key b6 x1416).Map)), (6, .int .i64 b1.2.Map), (8, .bool false)] [4, 6, 11, 12, 123] (by kernel_rfl) (L2 := [(4, .pointer (some ⟨g16, 0, none⟩)), (6, .slice A48 b3.length c49), (11, .slice A1297 b6.length c1298), (12, .int .i64 x1416), (123, .bool false)]) (obs := [fun _ => A1297.isSome = true ∧ 0 ≤ x1416 ∧ x1416 < ((b6.length : Nat) : Int), fun w => w.cell? (((A1297.getD ad0).add (x1416.toNat * 3)).add 0) = some (.int .i64 ((rdA z_impl_Key b6 x1416).Map)), fun w => w.cell? ⟨g16, 0, none⟩ = some (.int .i64 b1.2.Map), fun _ => (.bool (((rdA z_impl_Key b6 x1416).Map) == b1.2.Map) : Value) = .bool false]) (by kernel_rfl) ?_ ?_
                          · intro w hs; exact ⟨⟨ho1300.ne x1416 h1421 h1420, h1421, h1420⟩, hc1430 0 _ rfl hs (k := 2) rfl, hs.var (k := 0) rfl 0 rfl, congrArg Value.bool (beq_eq_false_iff_ne.2 h1425)⟩
                          refine at_thn ?_
                          refine at_cond_f rfl (rfl) ?_
                          refine at_skip ?_
                          refine at_in_norm ?_
                          refine at_thn ?_
                          refine at_reg [] [4, 6, 11, 12] (L2 := [(4, .pointer (some ⟨g16, 0, none⟩)), (6, .slice A48 b3.length c49), (11, .slice A1297 b6.length c1298), (12, .int .i64 (IntKind.i64.wrap (x1416 + 1)))]) (obs := []) (by kernel_rfl) ?_ ?_
                          · intro w hs; exact trivial
                          refine at_thn ?_
                          refine at_keep [4, 6, 11, 12] (L2 := [(4, .pointer (some ⟨g16, 0, none⟩)), (6, .slice A48 b3.length c49), (11, .slice A1297 b6.length c1298), (12, .int .i64 (IntKind.i64.wrap (x1416 + 1)))]) rfl ?_
                          exact ih1418 _ (by omega) _ _ _ ⟨IntKind.i64.wrap (x1416 + 1), rfl, rfl, H, hle, by omega, ho1300, ho51⟩
                      · rw [if_neg h1420] at H
                        refine at_cond_f rfl (decide_eq_false h1420) ?_
                        refine at_exit ?_
                        refine at_then_exit ?_
                        refine at_then_exit ?_
                        refine at_in_hit ?_
                        refine at_thn ?_
                        refine at_drop (k := 0) rfl rfl ?_
                        refine at_keep [6, 11] (L2 := [(6, .slice A48 b3.length c49), (11, .slice A1297 b6.length c1298)]) rfl ?_
                        exact Jn1301 _ _ _ ⟨_, rfl, rfl, H, hle, by omega, ho1300, ho51⟩
                · intro Jn1178
                  refine at_seq ?_
                  refine at_ops [0, 1, 2, 3, 4, 5, 6, 7, 8, 9, 10, 11, 12] rfl ?_
                  refine at_seg [0, 1, 2, 3, 4, 5, 6] [7, 8, 9, 10, 11, 12] rfl [(0, .agg #[.int .i64 b5.Kind, str b5.Name, .int .i64 b5.Used]), (2, str b1.2.Name), (4, str b1.2.Keys)] [4, 6, 10, 79, 85] (L2 := [(4, .pointer (some ⟨g16, 0, none⟩)), (6, .slice A48 b3.length c49), (10, .pointer (some ⟨g1166, 0, none⟩)), (79, .agg #[.int .i64 b5.Kind, str b5.Name, .int .i64 b5.Used]), (85, .agg #[.int .i64 3, str b1.2.Name, .int .i64 (b1.2.Keys.length : Int)])]) (obs := [fun w => CellsAt w ⟨g1166, 0, none⟩ [.int .i64 b5.Kind, str b5.Name, .int .i64 b5.Used] 0, fun w => w.cell? ⟨g16, 2, none⟩ = some (str b1.2.Name), fun w => w.cell? ⟨g16, 1, none⟩ = some (str b1.2.Keys)]) (by kernel_rfl) ?_ ?_
                  · intro w hs; exact ⟨cellsV (k := 1) hs rfl _ 0 (Nat.le_of_ble_eq_true (by kernel_rfl)) rfl, hs.var (k := 3) rfl 2 rfl, hs.var (k := 3) rfl 1 rfl⟩
                  refine at_eff rfl rfl ?_
                  refine eff_neAgg (b := ((b5.Kind == 3) && ((b5.Name == b1.2.Name) && ((b5.Used == (b1.2.Keys.length : Int)) && true)))) 4 rfl rfl (by decide) (by kernel_rfl) rfl rfl (by kernel_rfl) ?_
                  by_cases h1433 : ((b5.Kind == 3) && ((b5.Name == b1.2.Name) && ((b5.Used == (b1.2.Keys.length : Int)) && true))) = true
                  · rw [if_pos h1433] at H
                    refine at_seg [8, 9, 10, 11, 12] [] rfl [(8, .bool false)] [4, 6, 91] (L2 := [(4, .pointer (some ⟨g16, 0, none⟩)), (6, .slice A48 b3.length c49), (91, .bool false)]) (obs := [fun _ => (.bool (!((b5.Kind == 3) && ((b5.Name == b1.2.Name) && ((b5.Used == (b1.2.Keys.length : Int)) && true)))) : Value) = .bool false]) (by kernel_rfl) ?_ ?_
                    · intro w hs; exact congrArg Value.bool (not_ff (h1433))
                    refine at_end ?_
                    refine at_thn ?_
                    refine at_cond_f rfl (rfl) ?_
                    refine at_skip ?_
                    refine at_thn ?_
                    refine at_drop (k := 0) rfl rfl ?_
                    refine at_drop (k := 0) rfl rfl ?_
                    refine at_drop (k := 0) rfl rfl ?_
                    refine at_keep [4, 6] (L2 := [(4, .pointer (some ⟨g16, 0, none⟩)), (6, .slice A48 b3.length c49)]) rfl ?_
                    exact Jn1178 _ _ _ ⟨_, rfl, rfl, H, hle, by omega, ho51⟩
                  · rw [if_neg h1433] at H
                    refine at_seg [8, 9, 10, 11, 12] [] rfl [(8, .bool true), (10, .int .i64 b5.Kind)] [4, 6, 91] (L2 := [(4, .pointer (some ⟨g16, 0, none⟩)), (6, .slice A48 b3.length c49), (91, .bool (b5.Kind != 2))]) (obs := [fun _ => (.bool (!((b5.Kind == 3) && ((b5.Name == b1.2.Name) && ((b5.Used == (b1.2.Keys.length : Int)) && true)))) : Value) = .bool true, fun w => w.cell? ⟨g1166, 0, none⟩ = some (.int .i64 b5.Kind)]) (by kernel_rfl) ?_ ?_
                    · intro w hs; exact ⟨congrArg Value.bool (not_tt (ff_of h1433)), hs.var (k := 1) rfl 0 rfl⟩
                    refine at_end ?_
                    refine at_thn ?_
                    by_cases h1434 : b5.Kind = 2
                    · rw [if_pos h1434] at H
                      refine at_cond_f rfl (bne_eq_false_iff_eq.2 h1434) ?_
                      refine at_skip ?_
                      refine at_thn ?_
                      refine at_drop (k := 0) rfl rfl ?_
                      refine at_drop (k := 0) rfl rfl ?_
                      refine at_drop (k := 0) rfl rfl ?_
                      refine at_keep [4, 6] (L2 := [(4, .pointer (some ⟨g16, 0, none⟩)), (6, .slice A48 b3.length c49)]) rfl ?_
                      exact Jn1178 _ _ _ ⟨_, rfl, rfl, H, hle, by omega, ho51⟩
                    · rw [if_neg h1434] at H
                      refine at_cond_t rfl (bne_iff_ne.2 h1434) ?_
                      refine at_seq ?_
                      refine at_reg [] [2] (L2 := [(2, .bool false)]) (obs := []) (by kernel_rfl) ?_ ?_
                      · intro w hs; exact trivial
                      refine at_thn ?_
                      refine at_ret ?_
                      refine at_then_ret ?_
                      obtain rfl := Option.some.inj H
                      refine at_drop (k := 0) rfl rfl ?_
                      refine at_drop (k := 0) rfl rfl ?_
                      refine at_drop (k := 0) rfl rfl ?_
                      refine at_drop (k := 0) rfl rfl ?_
                      refine at_drop (k := 0) rfl rfl ?_
                      refine at_done (vs := [.bool false]) (obs := []) (.inl rfl) [.tmp 2] [] rfl (by kernel_rfl) (fun w hs => trivial) (fun w hs => ⟨_, _, [], rfl, ⟨rfl, rfl⟩, hle, hs⟩)
            · rw [if_neg h265] at H
              refine at_cond_t rfl (not_tt (ff_of h265)) ?_
              refine at_seq ?_
              refine at_reg [] [2] (L2 := [(2, .bool true)]) (obs := []) (by kernel_rfl) ?_ ?_
              · intro w hs; exact trivial
              refine at_thn ?_
              refine at_ret ?_
              refine at_then_ret ?_
              obtain rfl := Option.some.inj H
              refine at_drop (k := 0) rfl rfl ?_
              refine at_drop (k := 0) rfl rfl ?_
              refine at_drop (k := 0) rfl rfl ?_
              refine at_done (vs := [.bool true]) (obs := []) (.inl rfl) [.tmp 2] [] rfl (by kernel_rfl) (fun w hs => trivial) (fun w hs => ⟨_, _, [], rfl, ⟨rfl, rfl⟩, hle, hs⟩)
          · rw [if_neg h260] at H
            refine at_seg [0, 1, 2, 3] [4, 5, 6] rfl [(2, .bool true)] [4, 6, 66, 67] (L2 := [(4, .pointer (some ⟨g16, 0, none⟩)), (6, .slice A48 b3.length c49), (66, .bool true), (67, undef)]) (obs := [fun _ => (.bool (!x257) : Value) = .bool true]) (by kernel_rfl) ?_ ?_
            · intro w hs; exact congrArg Value.bool (not_tt (ff_of h260))
            refine at_seg [4, 5, 6] [] rfl [] [4, 6, 70] (L2 := [(4, .pointer (some ⟨g16, 0, none⟩)), (6, .slice A48 b3.length c49), (70, .bool true)]) (obs := []) (by kernel_rfl) ?_ ?_
            · intro w hs; exact trivial
            refine at_end ?_
            refine at_thn ?_
            refine at_cond_t rfl (rfl) ?_
            refine at_seq ?_
            refine at_reg [] [2] (L2 := [(2, .bool true)]) (obs := []) (by kernel_rfl) ?_ ?_
            · intro w hs; exact trivial
            refine at_thn ?_
            refine at_ret ?_
            refine at_then_ret ?_
            obtain rfl := Option.some.inj H
            refine at_drop (k := 0) rfl rfl ?_
            refine at_drop (k := 0) rfl rfl ?_
            refine at_drop (k := 0) rfl rfl ?_
            refine at_done (vs := [.bool true]) (obs := []) (.inl rfl) [.tmp 2] [] rfl (by kernel_rfl) (fun w hs => trivial) (fun w hs => ⟨_, _, [], rfl, ⟨rfl, rfl⟩, hle, hs⟩)
        · intro Jn156
          refine at_seq ?_
          refine at_reg [] [4, 5, 6, 8, 9] (L2 := [(4, .pointer (some ⟨g16, 0, none⟩)), (5, .slice A27 b2.length c28), (6, .slice A48 b3.length c49), (8, .bool false), (9, .int .i64 0)]) (obs := []) (by kernel_rfl) ?_ ?_
          · intro w hs; exact trivial
          refine at_thn ?_
          refine at_block ?_
          refine at_keep [4, 5, 6, 8, 9] (L2 := [(4, .pointer (some ⟨g16, 0, none⟩)), (5, .slice A27 b2.length c28), (6, .slice A48 b3.length c49), (8, .bool false), (9, .int .i64 0)]) rfl ?_
          refine at_loop (fun k1437 L I Ms => ∃ (x1435 : Bool) (x1436 : Int), L = [(4, .pointer (some ⟨g16, 0, none⟩)), (5, .slice A27 b2.length c28), (6, .slice A48 b3.length c49), (8, .bool x1435), (9, .int .i64 x1436)] ∧ Ms = ([(g16, .cells #[.int .i64 b1.2.Map, str b1.2.Keys, str b1.2.Name] 25 (0, 0))] :: s29 :: s50 :: Fs) ∧ laws_FnBind_l1 k1437 x1435 x1436 b1 b2 b3 = some r ∧ ImmLe I0 I ∧ k1437 ≤ k154 ∧ Own k_impl_Key 25 I A27 c28 b2 s29 ∧ Own k_impl_Key 25 I A48 c49 b3 s50) ?_ ?_ k154 ⟨false, 0, rfl, rfl, H, hle, Nat.le_refl _, ho30, ho51⟩
          · rintro L I Ms ⟨_, _, rfl, rfl, H, _⟩; exact no_none H
          · clear H hle ho30 ho51
            intro k1437 ih1438 L I Ms h_; obtain ⟨x1435, x1436, hL_, hM_, H, hle, hk1439, ho30, ho51⟩ := h_; rw [hL_, hM_]; clear hL_ hM_ L Ms
            rw [laws_FnBind_l1] at H
            refine at_seq ?_
            refine at_seq ?_
            refine at_reg [] [4, 5, 6, 8, 9, 52] (L2 := [(4, .pointer (some ⟨g16, 0, none⟩)), (5, .slice A27 b2.length c28), (6, .slice A48 b3.length c49), (8, .bool x1435), (9, .int .i64 x1436), (52, .bool (decide (x1436 < (b2.length : Int))))]) (obs := []) (by kernel_rfl) ?_ ?_
            · intro w hs; exact trivial
            refine at_thn ?_
            by_cases h1440 : x1436 < (b2.length : Int)
            · rw [if_pos h1440] at H
              refine at_cond_t rfl (decide_eq_true h1440) ?_
              refine at_skip ?_
              refine at_thn ?_
              refine at_seq ?_
              refine at_block ?_
              by_cases h1441 : x1435 = true
              · rw [if_pos h1441] at H
                refine at_x hmo (fun w => True) [] ?_
                refine at_xseg [0, 1, 2, 3, 4, 5, 6] 3 (#[true, true, true, true, true, true, true, false, false, false]) rfl (by kernel_rfl) [(1, .bool true)] [4, 5, 6, 8, 9, 56, 60, 61] (L2 := [(4, .pointer (some ⟨g16, 0, none⟩)), (5, .slice A27 b2.length c28), (6, .slice A48 b3.length c49), (8, .bool x1435), (9, .int .i64 x1436), (56, .bool true), (60, undef), (61, undef)]) (obs := [fun _ => (.bool x1435 : Value) = .bool true]) (by kernel_rfl) (by kernel_rfl) (by kernel_rfl) (.inr fun w hs => trivial) (fun w hS => congrArg Value.bool (h1441)) (fun w hs => congrArg Value.bool (h1441)) ?_
                refine at_xseg [7, 8, 9] 0 (#[true, true, true, true, true, true, true, true, true, true]) rfl (by kernel_rfl) [] [4, 5, 6, 8, 9] (L2 := [(4, .pointer (some ⟨g16, 0, none⟩)), (5, .slice A27 b2.length c28), (6, .slice A48 b3.length c49), (8, .bool true), (9, .int .i64 x1436)]) (obs := []) (by kernel_rfl) (by kernel_rfl) (by kernel_rfl) (.inr fun w hs => trivial) (fun w hS => trivial) (fun w hs => trivial) ?_
                refine at_xend (by kernel_rfl) ?_
                refine at_in_norm ?_
                refine at_thn ?_
                refine at_reg [] [4, 5, 6, 8, 9] (L2 := [(4, .pointer (some ⟨g16, 0, none⟩)), (5, .slice A27 b2.length c28), (6, .slice A48 b3.length c49), (8, .bool true), (9, .int .i64 (IntKind.i64.wrap (x1436 + 1)))]) (obs := []) (by kernel_rfl) ?_ ?_
                · intro w hs; exact trivial
                refine at_thn ?_
                refine at_keep [4, 5, 6, 8, 9] (L2 := [(4, .pointer (some ⟨g16, 0, none⟩)), (5, .slice A27 b2.length c28), (6, .slice A48 b3.length c49), (8, .bool true), (9, .int .i64 (IntKind.i64.wrap (x1436 + 1)))]) rfl ?_
                exact ih1438 _ (by omega) _ _ _ ⟨true, IntKind.i64.wrap (x1436 + 1), rfl, rfl, H, hle, by omega, ho30, ho51⟩
              · rw [if_neg h1441] at H
                obtain ⟨h1442, H⟩ := ite_some H
                obtain ⟨cs1444, hz1445, hc1443⟩ := ho30.elem z_impl_Key x1436 h1442 h1440
                obtain rfl := hz1445
                refine at_x hmo (fun w => CellsAt w ((A27.getD ad0).add (x1436.toNat * 3)) [.int .i64 ((rdA z_impl_Key b2 x1436).Map), str ((rdA z_impl_Key b2 x1436).Keys), str ((rdA z_impl_Key b2 x1436).Name)] 0 ∧ CellsAt w ⟨g16, 0, none⟩ [.int .i64 b1.2.Map, str b1.2.Keys, str b1.2.Name] 0) [] ?_
                refine at_xseg [0, 1, 2, 3, 4, 5, 6] 3 (#[true, true, true, true, true, true, true, false, false, false]) rfl (by kernel_rfl) [(1, .bool false), (5, .agg #[.int .i64 ((rdA z_impl_Key b2 x1436).Map), str ((rdA z_impl_Key b2 x1436).Keys), str ((rdA z_impl_Key b2 x1436).Name)]), (6, .agg #[.int .i64 b1.2.Map, str b1.2.Keys, str b1.2.Name])] [4, 5, 6, 8, 9, 56, 60, 61] (L2 := [(4, .pointer (some ⟨g16, 0, none⟩)), (5, .slice A27 b2.length c28), (6, .slice A48 b3.length c49), (8, .bool x1435), (9, .int .i64 x1436), (56, .bool false), (60, .agg #[.int .i64 ((rdA z_impl_Key b2 x1436).Map), str ((rdA z_impl_Key b2 x1436).Keys), str ((rdA z_impl_Key b2 x1436).Name)]), (61, .agg #[.int .i64 b1.2.Map, str b1.2.Keys, str b1.2.Name])]) (obs := [fun _ => (.bool x1435 : Value) = .bool false, fun _ => A27.isSome = true ∧ 0 ≤ x1436 ∧ x1436 < ((b2.length : Nat) : Int), fun w => CellsAt w ((A27.getD ad0).add (x1436.toNat * 3)) [.int .i64 ((rdA z_impl_Key b2 x1436).Map), str ((rdA z_impl_Key b2 x1436).Keys), str ((rdA z_impl_Key b2 x1436).Name)] 0, fun w => CellsAt w ⟨g16, 0, none⟩ [.int .i64 b1.2.Map, str b1.2.Keys, str b1.2.Name] 0]) (by kernel_rfl) (by kernel_rfl) (by kernel_rfl) (.inr fun w hs => ⟨⟨hc1443 0 _ rfl hs (k := 1) rfl, hc1443 1 _ rfl hs (k := 1) rfl, hc1443 2 _ rfl hs (k := 1) rfl, trivial⟩, cellsV (k := 0) hs rfl _ 0 (Nat.le_of_ble_eq_true (by kernel_rfl)) rfl⟩) (fun w hS => ⟨congrArg Value.bool (ff_of h1441), ⟨ho30.ne x1436 h1442 h1440, h1442, h1440⟩, hS.1, hS.2⟩) (fun w hs => ⟨congrArg Value.bool (ff_of h1441), ⟨ho30.ne x1436 h1442 h1440, h1442, h1440⟩, ⟨hc1443 0 _ rfl hs (k := 1) rfl, hc1443 1 _ rfl hs (k := 1) rfl, hc1443 2 _ rfl hs (k := 1) rfl, trivial⟩, cellsV (k := 0) hs rfl _ 0 (Nat.le_of_ble_eq_true (by kernel_rfl)) rfl⟩) ?_
                refine at_x1 2 7 (#[true, true, true, true, true, true, true, true, false, false]) rfl (by kernel_rfl) (by kernel_rfl) rfl rfl ?_
                refine eff_eqAgg (b := ((((rdA z_impl_Key b2 x1436).Map) == b1.2.Map) && ((((rdA z_impl_Key b2 x1436).Keys) == b1.2.Keys) && ((((rdA z_impl_Key b2 x1436).Name) == b1.2.Name) && true)))) 4 rfl rfl (by decide) (by kernel_rfl) rfl rfl (by kernel_rfl) ?_
                refine at_xS (fun w hs => ⟨⟨hc1443 0 _ rfl hs (k := 1) rfl, hc1443 1 _ rfl hs (k := 1) rfl, hc1443 2 _ rfl hs (k := 1) rfl, trivial⟩, cellsV (k := 0) hs rfl _ 0 (Nat.le_of_ble_eq_true (by kernel_rfl)) rfl⟩) ?_
                refine at_xseg [8, 9] 0 (#[true, true, true, true, true, true, true, true, true, true]) rfl (by kernel_rfl) [] [4, 5, 6, 8, 9] (L2 := [(4, .pointer (some ⟨g16, 0, none⟩)), (5, .slice A27 b2.length c28), (6, .slice A48 b3.length c49), (8, .bool ((((rdA z_impl_Key b2 x1436).Map) == b1.2.Map) && ((((rdA z_impl_Key b2 x1436).Keys) == b1.2.Keys) && ((((rdA z_impl_Key b2 x1436).Name) == b1.2.Name) && true)))), (9, .int .i64 x1436)]) (obs := []) (by kernel_rfl) (by kernel_rfl) (by kernel_rfl) (.inr fun w hs => ⟨⟨hc1443 0 _ rfl hs (k := 1) rfl, hc1443 1 _ rfl hs (k := 1) rfl, hc1443 2 _ rfl hs (k := 1) rfl, trivial⟩, cellsV (k := 0) hs rfl _ 0 (Nat.le_of_ble_eq_true (by kernel_rfl)) rfl⟩) (fun w hS => trivial) (fun w hs => trivial) ?_
                refine at_xend (by kernel_rfl) ?_
                refine at_in_norm ?_
                refine at_thn ?_
                refine at_reg [] [4, 5, 6, 8, 9] (L2 := [(4, .pointer (some ⟨g16, 0, none⟩)), (5, .slice A27 b2.length c28), (6, .slice A48 b3.length c49), (8, .bool ((((rdA z_impl_Key b2 x1436).Map) == b1.2.Map) && ((((rdA z_impl_Key b2 x1436).Keys) == b1.2.Keys) && ((((rdA z_impl_Key b2 x1436).Name) == b1.2.Name) && true)))), (9, .int .i64 (IntKind.i64.wrap (x1436 + 1)))]) (obs := []) (by kernel_rfl) ?_ ?_
                · intro w hs; exact trivial
                refine at_thn ?_
                refine at_keep [4, 5, 6, 8, 9] (L2 := [(4, .pointer (some ⟨g16, 0, none⟩)), (5, .slice A27 b2.length c28), (6, .slice A48 b3.length c49), (8, .bool ((((rdA z_impl_Key b2 x1436).Map) == b1.2.Map) && ((((rdA z_impl_Key b2 x1436).Keys) == b1.2.Keys) && ((((rdA z_impl_Key b2 x1436).Name) == b1.2.Name) && true)))), (9, .int .i64 (IntKind.i64.wrap (x1436 + 1)))]) rfl ?_
                exact ih1438 _ (by omega) _ _ _ ⟨((((rdA z_impl_Key b2 x1436).Map) == b1.2.Map) && ((((rdA z_impl_Key b2 x1436).Keys) == b1.2.Keys) && ((((rdA z_impl_Key b2 x1436).Name) == b1.2.Name) && true))), IntKind.i64.wrap (x1436 + 1), rfl, rfl, H, hle, by omega, ho30, ho51⟩
            · rw [if_neg h1440] at H
              refine at_cond_f rfl (decide_eq_false h1440) ?_
              refine at_exit ?_
              refine at_then_exit ?_
              refine at_then_exit ?_
              refine at_in_hit ?_
              refine at_thn ?_
              refine at_keep [4, 5, 6, 8] (L2 := [(4, .pointer (some ⟨g16, 0, none⟩)), (5, .slice A27 b2.length c28), (6, .slice A48 b3.length c49), (8, .bool x1435)]) rfl ?_
              exact Jn156 _ _ _ ⟨_, x1435, rfl, rfl, H, hle, by omega, ho30, ho51⟩
      · intro Jn53
        refine at_seq ?_
        refine at_reg [] [4, 5, 6, 7] (L2 := [(4, .pointer (some ⟨g16, 0, none⟩)), (5, .slice A27 b2.length c28), (6, .slice A48 b3.length c49), (7, .int .i64 0)]) (obs := []) (by kernel_rfl) ?_ ?_
        · intro w hs; exact trivial
        refine at_thn ?_
        refine at_block ?_
        refine at_perm ((perm_at (k := 2) rfl).trans (((perm_at (k := 1) rfl).trans ((List.Perm.refl _).cons _)).cons _)) ?_
        refine at_keep [4, 5, 6, 7] (L2 := [(4, .pointer (some ⟨g16, 0, none⟩)), (5, .slice A27 b2.length c28), (6, .slice A48 b3.length c49), (7, .int .i64 0)]) rfl ?_
        refine at_loop (fun k1447 L I Ms => ∃ (x1446 : Int), L = [(4, .pointer (some ⟨g16, 0, none⟩)), (5, .slice A27 b2.length c28), (6, .slice A48 b3.length c49), (7, .int .i64 x1446)] ∧ Ms = ([(g16, .cells #[.int .i64 b1.2.Map, str b1.2.Keys, str b1.2.Name] 25 (0, 0))] :: s29 :: s50 :: Fs) ∧ laws_FnBind_l2 k1447 x1446 b1 b2 b3 = some r ∧ ImmLe I0 I ∧ k1447 ≤ k ∧ Own k_impl_Key 25 I A27 c28 b2 s29 ∧ Own k_impl_Key 25 I A48 c49 b3 s50) ?_ ?_ k ⟨0, rfl, rfl, H, hle, Nat.le_refl _, ho30, ho51⟩
        · rintro L I Ms ⟨_, rfl, rfl, H, _⟩; exact no_none H
        · clear H hle ho30 ho51
          intro k1447 ih1448 L I Ms h_; obtain ⟨x1446, hL_, hM_, H, hle, hk1449, ho30, ho51⟩ := h_; rw [hL_, hM_]; clear hL_ hM_ L Ms
          rw [laws_FnBind_l2] at H
          refine at_seq ?_
          refine at_seq ?_
          refine at_reg [] [4, 5, 6, 7, 37] (L2 := [(4, .pointer (some ⟨g16, 0, none⟩)), (5, .slice A27 b2.length c28), (6, .slice A48 b3.length c49), (7, .int .i64 x1446), (37, .bool (decide (x1446 < (b3.length : Int))))]) (obs := []) (by kernel_rfl) ?_ ?_
          · intro w hs; exact trivial
          refine at_thn ?_
          by_cases h1450 : x1446 < (b3.length : Int)
          · rw [if_pos h1450] at H
            refine at_cond_t rfl (decide_eq_true h1450) ?_
            refine at_skip ?_
            refine at_thn ?_
            refine at_seq ?_
            refine at_block ?_
            refine at_seq ?_
            obtain ⟨h1451, H⟩ := ite_some H
            obtain ⟨h1455, H⟩ := ite_some H
            obtain ⟨cs1453, hz1454, hc1452⟩ := ho51.elem z_impl_Key x1446 h1451 h1450
            obtain rfl := hz1454
            obtain ⟨cs1457, hz1458, hc1456⟩ := ho30.elem z_impl_Key x1446 h1451 h1455
            obtain rfl := hz1458
            refine at_x hmo (fun w => CellsAt w ((A48.getD ad0).add (x1446.toNat * 3)) [.int .i64 ((rdA z_impl_Key b3 x1446).Map), str ((rdA z_impl_Key b3 x1446).Keys), str ((rdA z_impl_Key b3 x1446).Name)] 0 ∧ CellsAt w ((A27.getD ad0).add (x1446.toNat * 3)) [.int .i64 ((rdA z_impl_Key b2 x1446).Map), str ((rdA z_impl_Key b2 x1446).Keys), str ((rdA z_impl_Key b2 x1446).Name)] 0) [] ?_
            refine at_xseg [0, 1, 2, 3, 4, 5, 6, 7] 1 (#[true, true, true, true, true, true, true, true, false]) rfl (by kernel_rfl) [(3, .agg #[.int .i64 ((rdA z_impl_Key b3 x1446).Map), str ((rdA z_impl_Key b3 x1446).Keys), str ((rdA z_impl_Key b3 x1446).Name)]), (7, .agg #[.int .i64 ((rdA z_impl_Key b2 x1446).Map), str ((rdA z_impl_Key b2 x1446).Keys), str ((rdA z_impl_Key b2 x1446).Name)])] [4, 5, 6, 7, 43, 47] (L2 := [(4, .pointer (some ⟨g16, 0, none⟩)), (5, .slice A27 b2.length c28), (6, .slice A48 b3.length c49), (7, .int .i64 x1446), (43, .agg #[.int .i64 ((rdA z_impl_Key b3 x1446).Map), str ((rdA z_impl_Key b3 x1446).Keys), str ((rdA z_impl_Key b3 x1446).Name)]), (47, .agg #[.int .i64 ((rdA z_impl_Key b2 x1446).Map), str ((rdA z_impl_Key b2 x1446).Keys), str ((rdA z_impl_Key b2 x1446).Name)])]) (obs := [fun _ => A48.isSome = true ∧ 0 ≤ x1446 ∧ x1446 < ((b3.length : Nat) : Int), fun w => CellsAt w ((A48.getD ad0).add (x1446.toNat * 3)) [.int .i64 ((rdA z_impl_Key b3 x1446).Map), str ((rdA z_impl_Key b3 x1446).Keys), str ((rdA z_impl_Key b3 x1446).Name)] 0, fun _ => A27.isSome = true ∧ 0 ≤ x1446 ∧ x1446 < ((b2.length : Nat) : Int), fun w => CellsAt w ((A27.getD ad0).add (x1446.toNat * 3)) [.int .i64 ((rdA z_impl_Key b2 x1446).Map), str ((rdA z_impl_Key b2 x1446).Keys), str ((rdA z_impl_Key b2 x1446).Name)] 0]) (by kernel_rfl) (by kernel_rfl) (by kernel_rfl) (.inr fun w hs => ⟨⟨hc1452 0 _ rfl hs (k := 2) rfl, hc1452 1 _ rfl hs (k := 2) rfl, hc1452 2 _ rfl hs (k := 2) rfl, trivial⟩, ⟨hc1456 0 _ rfl hs (k := 1) rfl, hc1456 1 _ rfl hs (k := 1) rfl, hc1456 2 _ rfl hs (k := 1) rfl, trivial⟩⟩) (fun w hS => ⟨⟨ho51.ne x1446 h1451 h1450, h1451, h1450⟩, hS.1, ⟨ho30.ne x1446 h1451 h1455, h1451, h1455⟩, hS.2⟩) (fun w hs => ⟨⟨ho51.ne x1446 h1451 h1450, h1451, h1450⟩, ⟨hc1452 0 _ rfl hs (k := 2) rfl, hc1452 1 _ rfl hs (k := 2) rfl, hc1452 2 _ rfl hs (k := 2) rfl, trivial⟩, ⟨ho30.ne x1446 h1451 h1455, h1451, h1455⟩, ⟨hc1456 0 _ rfl hs (k := 1) rfl, hc1456 1 _ rfl hs (k := 1) rfl, hc1456 2 _ rfl hs (k := 1) rfl, trivial⟩⟩) ?_
            refine at_x1 0 8 (#[true, true, true, true, true, true, true, true, true]) rfl (by kernel_rfl) (by kernel_rfl) rfl rfl ?_
            refine eff_neAgg (b := ((((rdA z_impl_Key b3 x1446).Map) == ((rdA z_impl_Key b2 x1446).Map)) && ((((rdA z_impl_Key b3 x1446).Keys) == ((rdA z_impl_Key b2 x1446).Keys)) && ((((rdA z_impl_Key b3 x1446).Name) == ((rdA z_impl_Key b2 x1446).Name)) && true)))) 4 rfl rfl (by decide) (by kernel_rfl) rfl rfl (by kernel_rfl) ?_
            refine at_xS (fun w hs => ⟨⟨hc1452 0 _ rfl hs (k := 2) rfl, hc1452 1 _ rfl hs (k := 2) rfl, hc1452 2 _ rfl hs (k := 2) rfl, trivial⟩, ⟨hc1456 0 _ rfl hs (k := 1) rfl, hc1456 1 _ rfl hs (k := 1) rfl, hc1456 2 _ rfl hs (k := 1) rfl, trivial⟩⟩) ?_
            refine at_xend (by kernel_rfl) ?_
            refine at_thn ?_
            by_cases h1459 : ((((rdA z_impl_Key b3 x1446).Map) == ((rdA z_impl_Key b2 x1446).Map)) && ((((rdA z_impl_Key b3 x1446).Keys) == ((rdA z_impl_Key b2 x1446).Keys)) && ((((rdA z_impl_Key b3 x1446).Name) == ((rdA z_impl_Key b2 x1446).Name)) && true))) = true
            · rw [if_pos h1459] at H
              refine at_cond_f rfl (not_ff (h1459)) ?_
              refine at_skip ?_
              refine at_in_norm ?_
              refine at_thn ?_
              refine at_reg [] [4, 5, 6, 7] (L2 := [(4, .pointer (some ⟨g16, 0, none⟩)), (5, .slice A27 b2.length c28), (6, .slice A48 b3.length c49), (7, .int .i64 (IntKind.i64.wrap (x1446 + 1)))]) (obs := []) (by kernel_rfl) ?_ ?_
              · intro w hs; exact trivial
              refine at_thn ?_
              refine at_keep [4, 5, 6, 7] (L2 := [(4, .pointer (some ⟨g16, 0, none⟩)), (5, .slice A27 b2.length c28), (6, .slice A48 b3.length c49), (7, .int .i64 (IntKind.i64.wrap (x1446 + 1)))]) rfl ?_
              exact ih1448 _ (by omega) _ _ _ ⟨IntKind.i64.wrap (x1446 + 1), rfl, rfl, H, hle, by omega, ho30, ho51⟩
            · rw [if_neg h1459] at H
              refine at_cond_t rfl (not_tt (ff_of h1459)) ?_
              refine at_seq ?_
              refine at_reg [] [2] (L2 := [(2, .bool false)]) (obs := []) (by kernel_rfl) ?_ ?_
              · intro w hs; exact trivial
              refine at_thn ?_
              refine at_ret ?_
              refine at_in_ret ?_
              refine at_then_ret ?_
              refine at_then_ret ?_
              refine at_in_ret ?_
              refine at_then_ret ?_
              obtain rfl := Option.some.inj H
              refine at_drop (k := 0) rfl rfl ?_
              refine at_drop (k := 0) rfl rfl ?_
              refine at_drop (k := 0) rfl rfl ?_
              refine at_done (vs := [.bool false]) (obs := []) (.inl rfl) [.tmp 2] [] rfl (by kernel_rfl) (fun w hs => trivial) (fun w hs => ⟨_, _, [], rfl, ⟨rfl, rfl⟩, hle, hs⟩)
          · rw [if_neg h1450] at H
            refine at_cond_f rfl (decide_eq_false h1450) ?_
            refine at_exit ?_
            refine at_then_exit ?_
            refine at_then_exit ?_
            refine at_in_hit ?_
            refine at_thn ?_
            refine at_keep [4, 5, 6] (L2 := [(4, .pointer (some ⟨g16, 0, none⟩)), (5, .slice A27 b2.length c28), (6, .slice A48 b3.length c49)]) rfl ?_
            exact Jn53 _ _ _ ⟨_, rfl, rfl, H, hle, by omega, ho30, ho51⟩
    · rw [if_neg h52] at H
      refine at_cond_t rfl (bne_iff_ne.2 h52) ?_
      refine at_seq ?_
      refine at_reg [] [2] (L2 := [(2, .bool false)]) (obs := []) (by kernel_rfl) ?_ ?_
      · intro w hs; exact trivial
      refine at_thn ?_
      refine at_ret ?_
      refine at_then_ret ?_
      obtain rfl := Option.some.inj H
      refine at_drop (k := 0) rfl rfl ?_
      refine at_drop (k := 0) rfl rfl ?_
      refine at_drop (k := 0) rfl rfl ?_
      refine at_done (vs := [.bool false]) (obs := []) (.inl rfl) [.tmp 2] [] rfl (by kernel_rfl) (fun w hs => trivial) (fun w hs => ⟨_, _, [], rfl, ⟨rfl, rfl⟩, hle, hs⟩)
end Go.Proofs.Ytloojlhlfhmoeaa
