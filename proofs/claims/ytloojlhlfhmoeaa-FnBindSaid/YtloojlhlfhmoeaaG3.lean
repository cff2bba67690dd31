import Derived.Test.YtloojlhlfhmoeaaG2
namespace Go.Proofs.Ytloojlhlfhmoeaa
open Go Eng
set_option linter.unusedVariables false
set_option linter.unusedSimpArgs false
/-! ### loop.example/g00146/spec.KeyBind: function 5 -/
mutual
def spec_KeyBind_l0 : Nat → (List T_impl_Key) → Bool → Int → (List T_impl_Key) → T_impl_Key → Option (List T_impl_Key)
  | 0, _, _, _, _, _ => none
  | k + 1, x302, x307, x308, p47, p51 => if x308 < (p47.length : Int) then (if x307 = true then (spec_KeyBind_j4 k false p47 p51 x302 x307 x308) else (if 0 ≤ x308 then ((spec_l07Before (rdA z_impl_Key p47 x308) p51).bind fun b6 => (spec_KeyBind_j4 k (!b6) p47 p51 x302 x307 x308)) else none)) else (spec_KeyBind_j0 k x302 x307 p47 p51)
def spec_KeyBind_j4 : Nat → Bool → (List T_impl_Key) → T_impl_Key → (List T_impl_Key) → Bool → Int → Option (List T_impl_Key)
  | 0, _, _, _, _, _, _ => none
  | k + 1, x650, p47, p51, x302, x307, x308 => if x650 = true then (if x302.length + ([p51] : List T_impl_Key).length ≤ 3518437208883 then (spec_KeyBind_j2 k (x302 ++ ([p51] : List T_impl_Key)) true p47 p51 x308) else none) else (spec_KeyBind_j2 k x302 x307 p47 p51 x308)
def spec_KeyBind_j2 : Nat → (List T_impl_Key) → Bool → (List T_impl_Key) → T_impl_Key → Int → Option (List T_impl_Key)
  | 0, _, _, _, _, _ => none
  | k + 1, x414, x419, p47, p51, x308 => if 0 ≤ x308 then (if ((rdA z_impl_Key p47 x308).Map) = p51.Map then (spec_KeyBind_j3 k (!(((rdA z_impl_Key p47 x308).Keys) == p51.Keys)) p47 p51 x308 x414 x419) else (spec_KeyBind_j3 k true p47 p51 x308 x414 x419)) else none
def spec_KeyBind_j3 : Nat → Bool → (List T_impl_Key) → T_impl_Key → Int → (List T_impl_Key) → Bool → Option (List T_impl_Key)
  | 0, _, _, _, _, _, _ => none
  | k + 1, x523, p47, p51, x308, x414, x419 => if x523 = true then (if 0 ≤ x308 then (if x414.length + ([(rdA z_impl_Key p47 x308)] : List T_impl_Key).length ≤ 3518437208883 then (spec_KeyBind_l0 k (x414 ++ ([(rdA z_impl_Key p47 x308)] : List T_impl_Key)) x419 (IntKind.i64.wrap (x308 + 1)) p47 p51) else none) else none) else (spec_KeyBind_l0 k x414 x419 (IntKind.i64.wrap (x308 + 1)) p47 p51)
def spec_KeyBind_j0 : Nat → (List T_impl_Key) → Bool → (List T_impl_Key) → T_impl_Key → Option (List T_impl_Key)
  | 0, _, _, _, _ => none
  | k + 1, x173, x178, p47, p51 => if x178 = true then (spec_KeyBind_j1 k x173 p47) else (if x173.length + ([p51] : List T_impl_Key).length ≤ 3518437208883 then (spec_KeyBind_j1 k (x173 ++ ([p51] : List T_impl_Key)) p47) else none)
def spec_KeyBind_j1 : Nat → (List T_impl_Key) → (List T_impl_Key) → Option (List T_impl_Key)
  | 0, _, _ => none
  | k + 1, x282, p47 => (spec_KeysRight k x282).bind fun b5 => (if b5 = true then (some x282) else (some (([] : List T_impl_Key) ++ p47)))
end
def spec_KeyBind (k : Nat) (p47 : List T_impl_Key) (p51 : T_impl_Key) : Option (List T_impl_Key) := if (p47.length : Int) > 400 then (some ([] : List T_impl_Key)) else (if ([] : List T_impl_Key).length + p47.length ≤ 3518437208883 then ((spec_KeysRight k p47).bind fun b4 => (if b4 = true then (spec_KeyBind_l0 k ([] : List T_impl_Key) false 0 p47 p51) else (some (([] : List T_impl_Key) ++ p47)))) else none)
set_option maxHeartbeats 4000000 in
set_option maxRecDepth 100000 in
theorem spec_KeyBind.calls {k : Nat} {p47 : List T_impl_Key} {p51 : T_impl_Key} {r : (List T_impl_Key)} {I0 : Imm} {A48 : Option Addr} {c49 : Nat} (H : spec_KeyBind k p47 p51 = some r) (hr50 : Rd k_impl_Key I0 A48 c49 p47) :
    Meets Try.prog 5 ([.slice A48 p47.length c49, .agg #[.int .i64 p51.Map, str p51.Keys, str p51.Name]] : List Value).toArray I0 [] (fun v J M => ∃ (A_1 : Option Addr) (c_2 : Nat) (s_3 : Seg), v = .slice A_1 r.length c_2 ∧ M = [s_3] ∧ Own k_impl_Key 25 J A_1 c_2 r s_3) := by
  have hle := ImmLe.refl I0
  unfold spec_KeyBind at H
  refine fn_intro (fn := Try.f5) 78 Try.func5 rfl rfl rfl (fun E Fs => ?_)
  refine at_seq ?_
  refine at_ops [0, 1] rfl ?_
  refine at_eff rfl rfl ?_
  refine eff_box rfl rfl rfl #[.int .i64 p51.Map, str p51.Keys, str p51.Name] rfl (fun g52 => ?_)
  refine at_seg [1] [] rfl [] [0, 3] (L2 := [(0, .slice A48 p47.length c49), (3, .pointer (some ⟨g52, 0, none⟩))]) (obs := []) (by kernel_rfl) ?_ ?_
  · intro w hs; exact trivial
  refine at_end ?_
  refine at_thn ?_
  refine at_seq ?_
  refine at_seq ?_
  refine at_reg [] [0, 3, 11] (L2 := [(0, .slice A48 p47.length c49), (3, .pointer (some ⟨g52, 0, none⟩)), (11, .bool (decide ((p47.length : Int) > 400)))]) (obs := []) (by kernel_rfl) ?_ ?_
  · intro w hs; exact trivial
  refine at_thn ?_
  by_cases h53 : (p47.length : Int) > 400
  · rw [if_pos h53] at H
    refine at_cond_t rfl (decide_eq_true h53) ?_
    refine at_seq ?_
    refine at_ops [0, 1] rfl ?_
    refine at_eff rfl rfl ?_
    refine eff_buildSlice (e := 25) (cells := #[]) ([] : List T_impl_Key).length rfl rfl rfl (by kernel_rfl) (fun g54 => ?_)
    have ho55 := own_lit (K := k_impl_Key) (e := 25) (I := I0) (xs := ([] : List T_impl_Key)) (css := []) (cells := #[]) (b := g54) trivial rfl
    refine at_seg [1] [] rfl [] [4] (L2 := [(4, .slice (some ⟨g54, 0, none⟩ : Option Addr) ([] : List T_impl_Key).length (([] : List T_impl_Key).length))]) (obs := []) (by kernel_rfl) ?_ ?_
    · intro w hs; exact trivial
    refine at_end ?_
    refine at_thn ?_
    refine at_ret ?_
    refine at_then_ret ?_
    obtain rfl := Option.some.inj H
    refine at_drop (k := 1) rfl rfl ?_
    refine at_done (vs := [.slice (some ⟨g54, 0, none⟩ : Option Addr) ([] : List T_impl_Key).length (([] : List T_impl_Key).length)]) (obs := []) (.inl rfl) [.tmp 4] [] rfl (by kernel_rfl) (fun w hs => trivial) (fun w hs => ⟨_, _, [[(g54, .cells #[] 25 (0, 0))]], rfl, ⟨(some ⟨g54, 0, none⟩ : Option Addr), ([] : List T_impl_Key).length, [(g54, .cells #[] 25 (0, 0))], rfl, rfl, ho55⟩, hle, hs⟩)
  · rw [if_neg h53] at H
    refine at_cond_f rfl (decide_eq_false h53) ?_
    refine at_skip ?_
    refine at_thn ?_
    refine at_seq ?_
    refine at_ops [0, 1, 2, 3] rfl ?_
    refine at_eff rfl rfl ?_
    refine eff_buildSlice (e := 25) (cells := #[]) ([] : List T_impl_Key).length rfl rfl rfl (by kernel_rfl) (fun g56 => ?_)
    have ho57 := own_lit (K := k_impl_Key) (e := 25) (I := I0) (xs := ([] : List T_impl_Key)) (css := []) (cells := #[]) (b := g56) trivial rfl
    refine at_seg [1] [2, 3] rfl [] [0, 3, 13, 14] (L2 := [(0, .slice A48 p47.length c49), (3, .pointer (some ⟨g52, 0, none⟩)), (13, .slice (some ⟨g56, 0, none⟩ : Option Addr) ([] : List T_impl_Key).length (([] : List T_impl_Key).length)), (14, .slice A48 p47.length c49)]) (obs := []) (by kernel_rfl) ?_ ?_
    · intro w hs; exact trivial
    refine at_eff rfl rfl ?_
    obtain ⟨h58, H⟩ := ite_some H
    obtain ⟨i_, hi_, hz_, hs_, hb_⟩ := info25
    refine eff_append (K := k_impl_Key) (xs := ([] : List T_impl_Key)) (ys := p47) 0 rfl rfl rfl rfl rfl und23 und23 hi_ hz_ hs_ rfl rfl rfl ho57 rfl (fun w hs => hr50.rowAt hs) (by rw [hb_]; omega) (by omega) (fun A59 c60 s61 ho62 => ?_)
    refine at_seg [3] [] rfl [] [0, 3, 5] (L2 := [(0, .slice A48 p47.length c49), (3, .pointer (some ⟨g52, 0, none⟩)), (5, .slice A59 (([] : List T_impl_Key) ++ p47).length c60)]) (obs := []) (by kernel_rfl) ?_ ?_
    · intro w hs; exact trivial
    refine at_end ?_
    refine at_thn ?_
    refine at_seq ?_
    refine at_seq ?_
    refine at_ops [0, 1, 2] rfl ?_
    refine at_seg [0] [1, 2] rfl [] [0, 3, 5, 16] (L2 := [(0, .slice A48 p47.length c49), (3, .pointer (some ⟨g52, 0, none⟩)), (5, .slice A59 (([] : List T_impl_Key) ++ p47).length c60), (16, .slice A48 p47.length c49)]) (obs := []) (by kernel_rfl) ?_ ?_
    · intro w hs; exact trivial
    refine at_eff rfl rfl ?_
    obtain ⟨b4, H63, H⟩ := bind_some H
    have hm_ := spec_KeysRight.calls (I0 := I0) H63 hr50
    refine eff_call rfl rfl ok7 rfl rfl (show Meets Try.prog 7 ([.slice A48 p47.length c49] : List Value).toArray _ [] _ from hm_) (Mr := (s61 :: [(g52, .cells #[.int .i64 p51.Map, str p51.Keys, str p51.Name] 25 (0, 0))] :: Fs)) (List.Perm.refl _) (fun v64 J65 M66 hq67 hJ68 => ?_)
    replace hle := hle.trans hJ68
    replace ho62 := ho62.mono hJ68
    replace hr50 := hr50.mono hJ68
    obtain ⟨rfl, rfl⟩ := hq67
    refine at_seg [2] [] rfl [] [0, 3, 5, 18] (L2 := [(0, .slice A48 p47.length c49), (3, .pointer (some ⟨g52, 0, none⟩)), (5, .slice A59 (([] : List T_impl_Key) ++ p47).length c60), (18, .bool (!b4))]) (obs := []) (by kernel_rfl) ?_ ?_
    · intro w hs; exact trivial
    refine at_end ?_
    refine at_thn ?_
    by_cases h69 : b4 = true
    · rw [if_pos h69] at H
      refine at_cond_f rfl (not_ff (h69)) ?_
      refine at_skip ?_
      refine at_thn ?_
      refine at_seq ?_
      refine at_ops [0, 1] rfl ?_
      refine at_eff rfl rfl ?_
      refine eff_buildSlice (e := 25) (cells := #[]) ([] : List T_impl_Key).length rfl rfl rfl (by kernel_rfl) (fun g70 => ?_)
      have ho71 := own_lit (K := k_impl_Key) (e := 25) (I := J65) (xs := ([] : List T_impl_Key)) (css := []) (cells := #[]) (b := g70) trivial rfl
      refine at_seg [1] [] rfl [] [0, 3, 5, 6] (L2 := [(0, .slice A48 p47.length c49), (3, .pointer (some ⟨g52, 0, none⟩)), (5, .slice A59 (([] : List T_impl_Key) ++ p47).length c60), (6, .slice (some ⟨g70, 0, none⟩ : Option Addr) ([] : List T_impl_Key).length (([] : List T_impl_Key).length))]) (obs := []) (by kernel_rfl) ?_ ?_
      · intro w hs; exact trivial
      refine at_end ?_
      refine at_thn ?_
      refine at_seq ?_
      refine at_reg [] [0, 3, 5, 6, 7] (L2 := [(0, .slice A48 p47.length c49), (3, .pointer (some ⟨g52, 0, none⟩)), (5, .slice A59 (([] : List T_impl_Key) ++ p47).length c60), (6, .slice (some ⟨g70, 0, none⟩ : Option Addr) ([] : List T_impl_Key).length (([] : List T_impl_Key).length)), (7, .bool false)]) (obs := []) (by kernel_rfl) ?_ ?_
      · intro w hs; exact trivial
      refine at_thn ?_
      refine at_join (fun L I Ms => ∃ (k179 : Nat), ∃ (x173 : List T_impl_Key) (A174 : Option Addr) (c175 : Nat) (s176 : Seg) (x178 : Bool), L = [(3, .pointer (some ⟨g52, 0, none⟩)), (5, .slice A59 (([] : List T_impl_Key) ++ p47).length c60), (6, .slice A174 x173.length c175), (7, .bool x178)] ∧ Ms = ([(g52, .cells #[.int .i64 p51.Map, str p51.Keys, str p51.Name] 25 (0, 0))] :: s61 :: s176 :: Fs) ∧ spec_KeyBind_j0 k179 x173 x178 p47 p51 = some r ∧ ImmLe I0 I ∧ k179 ≤ k ∧ Own k_impl_Key 25 I A174 c175 x173 s176 ∧ Own k_impl_Key 25 I A59 c60 (([] : List T_impl_Key) ++ p47) s61) ?_ ?_
      · clear H hle ho62 ho71 hr50
        intro L I Ms h_; obtain ⟨k179, x173, A174, c175, s176, x178, hL_, hM_, H, hle, hk180, ho177, ho62⟩ := h_; rw [hL_, hM_]; clear hL_ hM_ L Ms
        rcases k179 with _ | k179
        · exact (no_none H).elim
        rw [spec_KeyBind_j0] at H
        refine at_join (fun L I Ms => ∃ (k287 : Nat), ∃ (x282 : List T_impl_Key) (A283 : Option Addr) (c284 : Nat) (s285 : Seg), L = [(5, .slice A59 (([] : List T_impl_Key) ++ p47).length c60), (6, .slice A283 x282.length c284)] ∧ Ms = (s61 :: s285 :: Fs) ∧ spec_KeyBind_j1 k287 x282 p47 = some r ∧ ImmLe I0 I ∧ k287 ≤ k179 ∧ Own k_impl_Key 25 I A283 c284 x282 s285 ∧ Own k_impl_Key 25 I A59 c60 (([] : List T_impl_Key) ++ p47) s61) ?_ ?_
        · clear H hle ho177 ho62
          intro L I Ms h_; obtain ⟨k287, x282, A283, c284, s285, hL_, hM_, H, hle, hk288, ho286, ho62⟩ := h_; rw [hL_, hM_]; clear hL_ hM_ L Ms
          rcases k287 with _ | k287
          · exact (no_none H).elim
          rw [spec_KeyBind_j1] at H
          refine at_seq ?_
          refine at_seq ?_
          refine at_ops [0, 1, 2] rfl ?_
          refine at_seg [0] [1, 2] rfl [] [5, 6, 73] (L2 := [(5, .slice A59 (([] : List T_impl_Key) ++ p47).length c60), (6, .slice A283 x282.length c284), (73, .slice A283 x282.length c284)]) (obs := []) (by kernel_rfl) ?_ ?_
          · intro w hs; exact trivial
          refine at_eff rfl rfl ?_
          obtain ⟨b5, H289, H⟩ := bind_some H
          refine eff_read rfl rfl (rv := .bool b5) (Ms' := (s285 :: s61 :: Fs)) ok7 rfl rfl ?_ ?_
          · refine Reads.lend (k := 1) rfl (fun J290 hJ291 hin292 => ?_)
            exact Reads.of_meets (Mr := (s61 :: Fs)) (show Meets Try.prog 7 ([.slice A283 x282.length c284] : List Value).toArray J290 [] _ from spec_KeysRight.calls (I0 := J290) H289 (ho286.rd hJ291 hin292)) (List.Perm.refl _)
          refine at_seg [2] [] rfl [] [5, 6, 75] (L2 := [(5, .slice A59 (([] : List T_impl_Key) ++ p47).length c60), (6, .slice A283 x282.length c284), (75, .bool (!b5))]) (obs := []) (by kernel_rfl) ?_ ?_
          · intro w hs; exact trivial
          refine at_end ?_
          refine at_thn ?_
          by_cases h293 : b5 = true
          · rw [if_pos h293] at H
            refine at_cond_f rfl (not_ff (h293)) ?_
            refine at_skip ?_
            refine at_thn ?_
            refine at_seq ?_
            refine at_reg [] [4] (L2 := [(4, .slice A283 x282.length c284)]) (obs := []) (by kernel_rfl) ?_ ?_
            · intro w hs; exact trivial
            refine at_thn ?_
            refine at_ret ?_
            obtain rfl := Option.some.inj H
            refine at_drop (k := 1) rfl rfl ?_
            refine at_done (vs := [.slice A283 x282.length c284]) (obs := []) (.inl rfl) [.tmp 4] [] rfl (by kernel_rfl) (fun w hs => trivial) (fun w hs => ⟨_, _, [s285], rfl, ⟨A283, c284, s285, rfl, rfl, ho286⟩, hle, hs⟩)
          · rw [if_neg h293] at H
            refine at_cond_t rfl (not_tt (ff_of h293)) ?_
            refine at_seq ?_
            refine at_reg [] [4] (L2 := [(4, .slice A59 (([] : List T_impl_Key) ++ p47).length c60)]) (obs := []) (by kernel_rfl) ?_ ?_
            · intro w hs; exact trivial
            refine at_thn ?_
            refine at_ret ?_
            refine at_then_ret ?_
            obtain rfl := Option.some.inj H
            refine at_drop (k := 0) rfl rfl ?_
            refine at_done (vs := [.slice A59 (([] : List T_impl_Key) ++ p47).length c60]) (obs := []) (.inl rfl) [.tmp 4] [] rfl (by kernel_rfl) (fun w hs => trivial) (fun w hs => ⟨_, _, [s61], rfl, ⟨A59, c60, s61, rfl, rfl, ho62⟩, hle, hs⟩)
        · intro Jn181
          refine at_seq ?_
          refine at_reg [] [3, 5, 6, 68] (L2 := [(3, .pointer (some ⟨g52, 0, none⟩)), (5, .slice A59 (([] : List T_impl_Key) ++ p47).length c60), (6, .slice A174 x173.length c175), (68, .bool (!x178))]) (obs := []) (by kernel_rfl) ?_ ?_
          · intro w hs; exact trivial
          refine at_thn ?_
          by_cases h294 : x178 = true
          · rw [if_pos h294] at H
            refine at_cond_f rfl (not_ff (h294)) ?_
            refine at_skip ?_
            refine at_thn ?_
            refine at_drop (k := 0) rfl rfl ?_
            refine at_keep [5, 6] (L2 := [(5, .slice A59 (([] : List T_impl_Key) ++ p47).length c60), (6, .slice A174 x173.length c175)]) rfl ?_
            exact Jn181 _ _ _ ⟨_, x173, A174, c175, s176, rfl, rfl, H, hle, by omega, ho177, ho62⟩
          · rw [if_neg h294] at H
            refine at_cond_t rfl (not_tt (ff_of h294)) ?_
            refine at_ops [0, 1, 2, 3, 4] rfl ?_
            refine at_seg [0, 1] [2, 3, 4] rfl [(1, .agg #[.int .i64 p51.Map, str p51.Keys, str p51.Name])] [5, 6, 69, 70] (L2 := [(5, .slice A59 (([] : List T_impl_Key) ++ p47).length c60), (6, .slice A174 x173.length c175), (69, .slice A174 x173.length c175), (70, .agg #[.int .i64 p51.Map, str p51.Keys, str p51.Name])]) (obs := [fun w => CellsAt w ⟨g52, 0, none⟩ [.int .i64 p51.Map, str p51.Keys, str p51.Name] 0]) (by kernel_rfl) ?_ ?_
            · intro w hs; exact cellsV (k := 0) hs rfl _ 0 (Nat.le_of_ble_eq_true (by kernel_rfl)) rfl
            refine at_eff rfl rfl ?_
            refine eff_buildSlice (e := 25) (cells := #[.int .i64 p51.Map, str p51.Keys, str p51.Name]) ([p51] : List T_impl_Key).length rfl rfl rfl (by kernel_rfl) (fun g295 => ?_)
            have ho296 := own_lit (K := k_impl_Key) (e := 25) (I := I) (xs := ([p51] : List T_impl_Key)) (css := [[.int .i64 p51.Map, str p51.Keys, str p51.Name]]) (cells := #[.int .i64 p51.Map, str p51.Keys, str p51.Name]) (b := g295) ⟨rfl, trivial⟩ rfl
            refine at_eff rfl rfl ?_
            obtain ⟨h297, H⟩ := ite_some H
            obtain ⟨i_, hi_, hz_, hs_, hb_⟩ := info25
            refine eff_append (K := k_impl_Key) (xs := x173) (ys := ([p51] : List T_impl_Key)) 3 rfl rfl rfl rfl rfl und23 und23 hi_ hz_ hs_ rfl rfl rfl ho177 rfl (fun w hs => ho296.rowAt (k := 0) hs rfl) (by rw [hb_]; omega) (by omega) (fun A298 c299 s300 ho301 => ?_)
            refine at_seg [4] [] rfl [] [5, 6] (L2 := [(5, .slice A59 (([] : List T_impl_Key) ++ p47).length c60), (6, .slice A298 (x173 ++ ([p51] : List T_impl_Key)).length c299)]) (obs := []) (by kernel_rfl) ?_ ?_
            · intro w hs; exact trivial
            refine at_end ?_
            refine at_thn ?_
            refine at_drop (k := 0) rfl rfl ?_
            refine at_drop (k := 0) rfl rfl ?_
            refine at_keep [5, 6] (L2 := [(5, .slice A59 (([] : List T_impl_Key) ++ p47).length c60), (6, .slice A298 (x173 ++ ([p51] : List T_impl_Key)).length c299)]) rfl ?_
            exact Jn181 _ _ _ ⟨_, (x173 ++ ([p51] : List T_impl_Key)), A298, c299, s300, rfl, rfl, H, hle, by omega, ho301, ho62⟩
      · intro Jn72
        refine at_seq ?_
        refine at_reg [] [0, 3, 5, 6, 7, 8] (L2 := [(0, .slice A48 p47.length c49), (3, .pointer (some ⟨g52, 0, none⟩)), (5, .slice A59 (([] : List T_impl_Key) ++ p47).length c60), (6, .slice (some ⟨g70, 0, none⟩ : Option Addr) ([] : List T_impl_Key).length (([] : List T_impl_Key).length)), (7, .bool false), (8, .int .i64 0)]) (obs := []) (by kernel_rfl) ?_ ?_
        · intro w hs; exact trivial
        refine at_thn ?_
        refine at_block ?_
        refine at_perm ((perm_at (k := 2) rfl).trans (((perm_at (k := 1) rfl).trans ((List.Perm.refl _).cons _)).cons _)) ?_
        refine at_keep [0, 3, 5, 6, 7, 8] (L2 := [(0, .slice A48 p47.length c49), (3, .pointer (some ⟨g52, 0, none⟩)), (5, .slice A59 (([] : List T_impl_Key) ++ p47).length c60), (6, .slice (some ⟨g70, 0, none⟩ : Option Addr) ([] : List T_impl_Key).length (([] : List T_impl_Key).length)), (7, .bool false), (8, .int .i64 0)]) rfl ?_
        refine at_loop (fun k309 L I Ms => ∃ (x302 : List T_impl_Key) (A303 : Option Addr) (c304 : Nat) (s305 : Seg) (x307 : Bool) (x308 : Int), L = [(0, .slice A48 p47.length c49), (3, .pointer (some ⟨g52, 0, none⟩)), (5, .slice A59 (([] : List T_impl_Key) ++ p47).length c60), (6, .slice A303 x302.length c304), (7, .bool x307), (8, .int .i64 x308)] ∧ Ms = ([(g52, .cells #[.int .i64 p51.Map, str p51.Keys, str p51.Name] 25 (0, 0))] :: s61 :: s305 :: Fs) ∧ spec_KeyBind_l0 k309 x302 x307 x308 p47 p51 = some r ∧ ImmLe I0 I ∧ k309 ≤ k ∧ Own k_impl_Key 25 I A303 c304 x302 s305 ∧ Own k_impl_Key 25 I A59 c60 (([] : List T_impl_Key) ++ p47) s61 ∧ Rd k_impl_Key I A48 c49 p47) ?_ ?_ k ⟨([] : List T_impl_Key), (some ⟨g70, 0, none⟩ : Option Addr), ([] : List T_impl_Key).length, [(g70, .cells #[] 25 (0, 0))], false, 0, rfl, rfl, H, hle, Nat.le_refl _, ho71, ho62, hr50⟩
        · rintro L I Ms ⟨_, _, _, _, _, _, rfl, rfl, H, _⟩; exact no_none H
        · clear H hle ho62 ho71 hr50
          intro k309 ih310 L I Ms h_; obtain ⟨x302, A303, c304, s305, x307, x308, hL_, hM_, H, hle, hk311, ho306, ho62, hr50⟩ := h_; rw [hL_, hM_]; clear hL_ hM_ L Ms
          rw [spec_KeyBind_l0] at H
          refine at_seq ?_
          refine at_seq ?_
          refine at_reg [] [0, 3, 5, 6, 7, 8, 24] (L2 := [(0, .slice A48 p47.length c49), (3, .pointer (some ⟨g52, 0, none⟩)), (5, .slice A59 (([] : List T_impl_Key) ++ p47).length c60), (6, .slice A303 x302.length c304), (7, .bool x307), (8, .int .i64 x308), (24, .bool (decide (x308 < (p47.length : Int))))]) (obs := []) (by kernel_rfl) ?_ ?_
          · intro w hs; exact trivial
          refine at_thn ?_
          by_cases h312 : x308 < (p47.length : Int)
          · rw [if_pos h312] at H
            refine at_cond_t rfl (decide_eq_true h312) ?_
            refine at_skip ?_
            refine at_thn ?_
            refine at_seq ?_
            refine at_block ?_
            refine at_join (fun L I Ms => ∃ (k420 : Nat), ∃ (x414 : List T_impl_Key) (A415 : Option Addr) (c416 : Nat) (s417 : Seg) (x419 : Bool), L = [(0, .slice A48 p47.length c49), (3, .pointer (some ⟨g52, 0, none⟩)), (5, .slice A59 (([] : List T_impl_Key) ++ p47).length c60), (6, .slice A415 x414.length c416), (7, .bool x419), (8, .int .i64 x308)] ∧ Ms = ([(g52, .cells #[.int .i64 p51.Map, str p51.Keys, str p51.Name] 25 (0, 0))] :: s61 :: s417 :: Fs) ∧ spec_KeyBind_j2 k420 x414 x419 p47 p51 x308 = some r ∧ ImmLe I0 I ∧ k420 ≤ k309 ∧ Own k_impl_Key 25 I A415 c416 x414 s417 ∧ Own k_impl_Key 25 I A59 c60 (([] : List T_impl_Key) ++ p47) s61 ∧ Rd k_impl_Key I A48 c49 p47) ?_ ?_
            · clear H hle ho306 ho62 hr50
              intro L I Ms h_; obtain ⟨k420, x414, A415, c416, s417, x419, hL_, hM_, H, hle, hk421, ho418, ho62, hr50⟩ := h_; rw [hL_, hM_]; clear hL_ hM_ L Ms
              rcases k420 with _ | k420
              · exact (no_none H).elim
              rw [spec_KeyBind_j2] at H
              refine at_join (fun L I Ms => ∃ (k524 : Nat), ∃ (x523 : Bool), L = [(0, .slice A48 p47.length c49), (3, .pointer (some ⟨g52, 0, none⟩)), (5, .slice A59 (([] : List T_impl_Key) ++ p47).length c60), (6, .slice A415 x414.length c416), (7, .bool x419), (8, .int .i64 x308), (59, .bool x523)] ∧ Ms = ([(g52, .cells #[.int .i64 p51.Map, str p51.Keys, str p51.Name] 25 (0, 0))] :: s61 :: s417 :: Fs) ∧ spec_KeyBind_j3 k524 x523 p47 p51 x308 x414 x419 = some r ∧ ImmLe I0 I ∧ k524 ≤ k420 ∧ Own k_impl_Key 25 I A415 c416 x414 s417 ∧ Own k_impl_Key 25 I A59 c60 (([] : List T_impl_Key) ++ p47) s61 ∧ Rd k_impl_Key I A48 c49 p47) ?_ ?_
              · clear H hle ho418 ho62 hr50
                intro L I Ms h_; obtain ⟨k524, x523, hL_, hM_, H, hle, hk525, ho418, ho62, hr50⟩ := h_; rw [hL_, hM_]; clear hL_ hM_ L Ms
                rcases k524 with _ | k524
                · exact (no_none H).elim
                rw [spec_KeyBind_j3] at H
                by_cases h526 : x523 = true
                · rw [if_pos h526] at H
                  refine at_cond_t rfl (h526) ?_
                  refine at_ops [0, 1, 2, 3, 4, 5, 6, 7] rfl ?_
                  obtain ⟨h527, H⟩ := ite_some H
                  obtain ⟨cs529, hz530, hc528⟩ := hr50.elem z_impl_Key x308 h527 h312
                  obtain rfl := hz530
                  refine at_seg [0, 1, 2, 3, 4] [5, 6, 7] rfl [(4, .agg #[.int .i64 ((rdA z_impl_Key p47 x308).Map), str ((rdA z_impl_Key p47 x308).Keys), str ((rdA z_impl_Key p47 x308).Name)])] [0, 3, 5, 6, 7, 8, 60, 64] (L2 := [(0, .slice A48 p47.length c49), (3, .pointer (some ⟨g52, 0, none⟩)), (5, .slice A59 (([] : List T_impl_Key) ++ p47).length c60), (6, .slice A415 x414.length c416), (7, .bool x419), (8, .int .i64 x308), (60, .slice A415 x414.length c416), (64, .agg #[.int .i64 ((rdA z_impl_Key p47 x308).Map), str ((rdA z_impl_Key p47 x308).Keys), str ((rdA z_impl_Key p47 x308).Name)])]) (obs := [fun _ => A48.isSome = true ∧ 0 ≤ x308 ∧ x308 < ((p47.length : Nat) : Int), fun w => CellsAt w ((A48.getD ad0).add (x308.toNat * 3)) [.int .i64 ((rdA z_impl_Key p47 x308).Map), str ((rdA z_impl_Key p47 x308).Keys), str ((rdA z_impl_Key p47 x308).Name)] 0]) (by kernel_rfl) ?_ ?_
                  · intro w hs; exact ⟨⟨hr50.ne x308 h527 h312, h527, h312⟩, ⟨hc528 0 _ rfl hs, hc528 1 _ rfl hs, hc528 2 _ rfl hs, trivial⟩⟩
                  refine at_eff rfl rfl ?_
                  refine eff_buildSlice (e := 25) (cells := #[.int .i64 ((rdA z_impl_Key p47 x308).Map), str ((rdA z_impl_Key p47 x308).Keys), str ((rdA z_impl_Key p47 x308).Name)]) ([(rdA z_impl_Key p47 x308)] : List T_impl_Key).length rfl rfl rfl (by kernel_rfl) (fun g531 => ?_)
                  have ho532 := own_lit (K := k_impl_Key) (e := 25) (I := I) (xs := ([(rdA z_impl_Key p47 x308)] : List T_impl_Key)) (css := [[.int .i64 ((rdA z_impl_Key p47 x308).Map), str ((rdA z_impl_Key p47 x308).Keys), str ((rdA z_impl_Key p47 x308).Name)]]) (cells := #[.int .i64 ((rdA z_impl_Key p47 x308).Map), str ((rdA z_impl_Key p47 x308).Keys), str ((rdA z_impl_Key p47 x308).Name)]) (b := g531) ⟨rfl, trivial⟩ rfl
                  refine at_eff rfl rfl ?_
                  obtain ⟨h533, H⟩ := ite_some H
                  obtain ⟨i_, hi_, hz_, hs_, hb_⟩ := info25
                  refine eff_append (K := k_impl_Key) (xs := x414) (ys := ([(rdA z_impl_Key p47 x308)] : List T_impl_Key)) 3 rfl rfl rfl rfl rfl und23 und23 hi_ hz_ hs_ rfl rfl rfl ho418 rfl (fun w hs => ho532.rowAt (k := 0) hs rfl) (by rw [hb_]; omega) (by omega) (fun A534 c535 s536 ho537 => ?_)
                  refine at_seg [7] [] rfl [] [0, 3, 5, 6, 7, 8] (L2 := [(0, .slice A48 p47.length c49), (3, .pointer (some ⟨g52, 0, none⟩)), (5, .slice A59 (([] : List T_impl_Key) ++ p47).length c60), (6, .slice A534 (x414 ++ ([(rdA z_impl_Key p47 x308)] : List T_impl_Key)).length c535), (7, .bool x419), (8, .int .i64 x308)]) (obs := []) (by kernel_rfl) ?_ ?_
                  · intro w hs; exact trivial
                  refine at_end ?_
                  refine at_in_norm ?_
                  refine at_thn ?_
                  refine at_reg [] [0, 3, 5, 6, 7, 8] (L2 := [(0, .slice A48 p47.length c49), (3, .pointer (some ⟨g52, 0, none⟩)), (5, .slice A59 (([] : List T_impl_Key) ++ p47).length c60), (6, .slice A534 (x414 ++ ([(rdA z_impl_Key p47 x308)] : List T_impl_Key)).length c535), (7, .bool x419), (8, .int .i64 (IntKind.i64.wrap (x308 + 1)))]) (obs := []) (by kernel_rfl) ?_ ?_
                  · intro w hs; exact trivial
                  refine at_thn ?_
                  refine at_drop (k := 0) rfl rfl ?_
                  refine at_keep [0, 3, 5, 6, 7, 8] (L2 := [(0, .slice A48 p47.length c49), (3, .pointer (some ⟨g52, 0, none⟩)), (5, .slice A59 (([] : List T_impl_Key) ++ p47).length c60), (6, .slice A534 (x414 ++ ([(rdA z_impl_Key p47 x308)] : List T_impl_Key)).length c535), (7, .bool x419), (8, .int .i64 (IntKind.i64.wrap (x308 + 1)))]) rfl ?_
                  exact ih310 _ (by omega) _ _ _ ⟨(x414 ++ ([(rdA z_impl_Key p47 x308)] : List T_impl_Key)), A534, c535, s536, x419, IntKind.i64.wrap (x308 + 1), rfl, rfl, H, hle, by omega, ho537, ho62, hr50⟩
                · rw [if_neg h526] at H
                  refine at_cond_f rfl (ff_of h526) ?_
                  refine at_skip ?_
                  refine at_in_norm ?_
                  refine at_thn ?_
                  refine at_reg [] [0, 3, 5, 6, 7, 8] (L2 := [(0, .slice A48 p47.length c49), (3, .pointer (some ⟨g52, 0, none⟩)), (5, .slice A59 (([] : List T_impl_Key) ++ p47).length c60), (6, .slice A415 x414.length c416), (7, .bool x419), (8, .int .i64 (IntKind.i64.wrap (x308 + 1)))]) (obs := []) (by kernel_rfl) ?_ ?_
                  · intro w hs; exact trivial
                  refine at_thn ?_
                  refine at_keep [0, 3, 5, 6, 7, 8] (L2 := [(0, .slice A48 p47.length c49), (3, .pointer (some ⟨g52, 0, none⟩)), (5, .slice A59 (([] : List T_impl_Key) ++ p47).length c60), (6, .slice A415 x414.length c416), (7, .bool x419), (8, .int .i64 (IntKind.i64.wrap (x308 + 1)))]) rfl ?_
                  exact ih310 _ (by omega) _ _ _ ⟨x414, A415, c416, s417, x419, IntKind.i64.wrap (x308 + 1), rfl, rfl, H, hle, by omega, ho418, ho62, hr50⟩
              · intro Jn422
                obtain ⟨h538, H⟩ := ite_some H
                by_cases h542 : ((rdA z_impl_Key p47 x308).Map) = p51.Map
                · rw [if_pos h542] at H
                  obtain ⟨cs544, hz545, hc543⟩ := hr50.elem z_impl_Key x308 h538 h312
                  obtain rfl := hz545
                  refine at_regd hmo [(4, .int .i64 ((rdA z_impl_Key p47 x308).Map)), (6, .int .i64 p51.Map), (8, .bool false), (13, str ((rdA z_impl_Key p47 x308).Keys)), (15, str p51.Keys)] [0, 3, 5, 6, 7, 8, 59] (by kernel_rfl) (L2 := [(0, .slice A48 p47.length c49), (3, .pointer (some ⟨g52, 0, none⟩)), (5, .slice A59 (([] : List T_impl_Key) ++ p47).length c60), (6, .slice A415 x414.length c416), (7, .bool x419), (8, .int .i64 x308), (59, .bool (!(((rdA z_impl_Key p47 x308).Keys) == p51.Keys)))]) (obs := [fun _ => A48.isSome = true ∧ 0 ≤ x308 ∧ x308 < ((p47.length : Nat) : Int), fun w => w.cell? (((A48.getD ad0).add (x308.toNat * 3)).add 0) = some (.int .i64 ((rdA z_impl_Key p47 x308).Map)), fun w => w.cell? ⟨g52, 0, none⟩ = some (.int .i64 p51.Map), fun _ => (.bool (((rdA z_impl_Key p47 x308).Map) != p51.Map) : Value) = .bool false, fun _ => A48.isSome = true ∧ 0 ≤ x308 ∧ x308 < ((p47.length : Nat) : Int), fun w => w.cell? (((A48.getD ad0).add (x308.toNat * 3)).add 1) = some (str ((rdA z_impl_Key p47 x308).Keys)), fun w => w.cell? ⟨g52, 1, none⟩ = some (str p51.Keys)]) (by kernel_rfl) ?_ ?_
                  · intro w hs; exact ⟨⟨hr50.ne x308 h538 h312, h538, h312⟩, hc543 0 _ rfl hs, hs.var (k := 0) rfl 0 rfl, congrArg Value.bool (bne_eq_false_iff_eq.2 h542), ⟨hr50.ne x308 h538 h312, h538, h312⟩, hc543 1 _ rfl hs, hs.var (k := 0) rfl 1 rfl⟩
                  refine at_thn ?_
                  refine at_keep [0, 3, 5, 6, 7, 8, 59] (L2 := [(0, .slice A48 p47.length c49), (3, .pointer (some ⟨g52, 0, none⟩)), (5, .slice A59 (([] : List T_impl_Key) ++ p47).length c60), (6, .slice A415 x414.length c416), (7, .bool x419), (8, .int .i64 x308), (59, .bool (!(((rdA z_impl_Key p47 x308).Keys) == p51.Keys)))]) rfl ?_
                  exact Jn422 _ _ _ ⟨_, (!(((rdA z_impl_Key p47 x308).Keys) == p51.Keys)), rfl, rfl, H, hle, by omega, ho418, ho62, hr50⟩
                · rw [if_neg h542] at H
                  obtain ⟨cs547, hz548, hc546⟩ := hr50.elem z_impl_Key x308 h538 h312
                  obtain rfl := hz548
                  refine at_regd hmo [(4, .int .i64 ((rdA z_impl_Key p47 x308).Map)), (6, .int .i64 p51.Map), (8, .bool true)] [0, 3, 5, 6, 7, 8, 59] (by kernel_rfl) (L2 := [(0, .slice A48 p47.length c49), (3, .pointer (some ⟨g52, 0, none⟩)), (5, .slice A59 (([] : List T_impl_Key) ++ p47).length c60), (6, .slice A415 x414.length c416), (7, .bool x419), (8, .int .i64 x308), (59, .bool true)]) (obs := [fun _ => A48.isSome = true ∧ 0 ≤ x308 ∧ x308 < ((p47.length : Nat) : Int), fun w => w.cell? (((A48.getD ad0).add (x308.toNat * 3)).add 0) = some (.int .i64 ((rdA z_impl_Key p47 x308).Map)), fun w => w.cell? ⟨g52, 0, none⟩ = some (.int .i64 p51.Map), fun _ => (.bool (((rdA z_impl_Key p47 x308).Map) != p51.Map) : Value) = .bool true]) (by kernel_rfl) ?_ ?_
                  · intro w hs; exact ⟨⟨hr50.ne x308 h538 h312, h538, h312⟩, hc546 0 _ rfl hs, hs.var (k := 0) rfl 0 rfl, congrArg Value.bool (bne_iff_ne.2 h542)⟩
                  refine at_thn ?_
                  refine at_keep [0, 3, 5, 6, 7, 8, 59] (L2 := [(0, .slice A48 p47.length c49), (3, .pointer (some ⟨g52, 0, none⟩)), (5, .slice A59 (([] : List T_impl_Key) ++ p47).length c60), (6, .slice A415 x414.length c416), (7, .bool x419), (8, .int .i64 x308), (59, .bool true)]) rfl ?_
                  exact Jn422 _ _ _ ⟨_, true, rfl, rfl, H, hle, by omega, ho418, ho62, hr50⟩
            · intro Jn313
              refine at_join (fun L I Ms => ∃ (k651 : Nat), ∃ (x650 : Bool), L = [(0, .slice A48 p47.length c49), (3, .pointer (some ⟨g52, 0, none⟩)), (5, .slice A59 (([] : List T_impl_Key) ++ p47).length c60), (6, .slice A303 x302.length c304), (7, .bool x307), (8, .int .i64 x308), (37, .bool x650)] ∧ Ms = ([(g52, .cells #[.int .i64 p51.Map, str p51.Keys, str p51.Name] 25 (0, 0))] :: s61 :: s305 :: Fs) ∧ spec_KeyBind_j4 k651 x650 p47 p51 x302 x307 x308 = some r ∧ ImmLe I0 I ∧ k651 ≤ k309 ∧ Own k_impl_Key 25 I A303 c304 x302 s305 ∧ Own k_impl_Key 25 I A59 c60 (([] : List T_impl_Key) ++ p47) s61 ∧ Rd k_impl_Key I A48 c49 p47) ?_ ?_
              · clear H hle ho306 ho62 hr50
                intro L I Ms h_; obtain ⟨k651, x650, hL_, hM_, H, hle, hk652, ho306, ho62, hr50⟩ := h_; rw [hL_, hM_]; clear hL_ hM_ L Ms
                rcases k651 with _ | k651
                · exact (no_none H).elim
                rw [spec_KeyBind_j4] at H
                by_cases h653 : x650 = true
                · rw [if_pos h653] at H
                  refine at_cond_t rfl (h653) ?_
                  refine at_seq ?_
                  refine at_ops [0, 1, 2, 3, 4] rfl ?_
                  refine at_seg [0, 1] [2, 3, 4] rfl [(1, .agg #[.int .i64 p51.Map, str p51.Keys, str p51.Name])] [0, 3, 5, 6, 8, 38, 39] (L2 := [(0, .slice A48 p47.length c49), (3, .pointer (some ⟨g52, 0, none⟩)), (5, .slice A59 (([] : List T_impl_Key) ++ p47).length c60), (6, .slice A303 x302.length c304), (8, .int .i64 x308), (38, .slice A303 x302.length c304), (39, .agg #[.int .i64 p51.Map, str p51.Keys, str p51.Name])]) (obs := [fun w => CellsAt w ⟨g52, 0, none⟩ [.int .i64 p51.Map, str p51.Keys, str p51.Name] 0]) (by kernel_rfl) ?_ ?_
                  · intro w hs; exact cellsV (k := 0) hs rfl _ 0 (Nat.le_of_ble_eq_true (by kernel_rfl)) rfl
                  refine at_eff rfl rfl ?_
                  refine eff_buildSlice (e := 25) (cells := #[.int .i64 p51.Map, str p51.Keys, str p51.Name]) ([p51] : List T_impl_Key).length rfl rfl rfl (by kernel_rfl) (fun g654 => ?_)
                  have ho655 := own_lit (K := k_impl_Key) (e := 25) (I := I) (xs := ([p51] : List T_impl_Key)) (css := [[.int .i64 p51.Map, str p51.Keys, str p51.Name]]) (cells := #[.int .i64 p51.Map, str p51.Keys, str p51.Name]) (b := g654) ⟨rfl, trivial⟩ rfl
                  refine at_eff rfl rfl ?_
                  obtain ⟨h656, H⟩ := ite_some H
                  obtain ⟨i_, hi_, hz_, hs_, hb_⟩ := info25
                  refine eff_append (K := k_impl_Key) (xs := x302) (ys := ([p51] : List T_impl_Key)) 3 rfl rfl rfl rfl rfl und23 und23 hi_ hz_ hs_ rfl rfl rfl ho306 rfl (fun w hs => ho655.rowAt (k := 0) hs rfl) (by rw [hb_]; omega) (by omega) (fun A657 c658 s659 ho660 => ?_)
                  refine at_seg [4] [] rfl [] [0, 3, 5, 6, 8] (L2 := [(0, .slice A48 p47.length c49), (3, .pointer (some ⟨g52, 0, none⟩)), (5, .slice A59 (([] : List T_impl_Key) ++ p47).length c60), (6, .slice A657 (x302 ++ ([p51] : List T_impl_Key)).length c658), (8, .int .i64 x308)]) (obs := []) (by kernel_rfl) ?_ ?_
                  · intro w hs; exact trivial
                  refine at_end ?_
                  refine at_thn ?_
                  refine at_reg [] [0, 3, 5, 6, 7, 8] (L2 := [(0, .slice A48 p47.length c49), (3, .pointer (some ⟨g52, 0, none⟩)), (5, .slice A59 (([] : List T_impl_Key) ++ p47).length c60), (6, .slice A657 (x302 ++ ([p51] : List T_impl_Key)).length c658), (7, .bool true), (8, .int .i64 x308)]) (obs := []) (by kernel_rfl) ?_ ?_
                  · intro w hs; exact trivial
                  refine at_thn ?_
                  refine at_drop (k := 0) rfl rfl ?_
                  refine at_keep [0, 3, 5, 6, 7, 8] (L2 := [(0, .slice A48 p47.length c49), (3, .pointer (some ⟨g52, 0, none⟩)), (5, .slice A59 (([] : List T_impl_Key) ++ p47).length c60), (6, .slice A657 (x302 ++ ([p51] : List T_impl_Key)).length c658), (7, .bool true), (8, .int .i64 x308)]) rfl ?_
                  exact Jn313 _ _ _ ⟨_, (x302 ++ ([p51] : List T_impl_Key)), A657, c658, s659, true, rfl, rfl, H, hle, by omega, ho660, ho62, hr50⟩
                · rw [if_neg h653] at H
                  refine at_cond_f rfl (ff_of h653) ?_
                  refine at_skip ?_
                  refine at_thn ?_
                  refine at_keep [0, 3, 5, 6, 7, 8] (L2 := [(0, .slice A48 p47.length c49), (3, .pointer (some ⟨g52, 0, none⟩)), (5, .slice A59 (([] : List T_impl_Key) ++ p47).length c60), (6, .slice A303 x302.length c304), (7, .bool x307), (8, .int .i64 x308)]) rfl ?_
                  exact Jn313 _ _ _ ⟨_, x302, A303, c304, s305, x307, rfl, rfl, H, hle, by omega, ho306, ho62, hr50⟩
              · intro Jn549
                by_cases h661 : x307 = true
                · rw [if_pos h661] at H
                  refine at_x hmo (fun w => True) [] ?_
                  refine at_xseg [0, 1, 2, 3, 4, 5, 6, 7] 3 (#[true, true, true, true, true, true, true, true, false, false, false]) rfl (by kernel_rfl) [(2, .bool false)] [0, 3, 5, 6, 7, 8, 29, 33, 34] (L2 := [(0, .slice A48 p47.length c49), (3, .pointer (some ⟨g52, 0, none⟩)), (5, .slice A59 (([] : List T_impl_Key) ++ p47).length c60), (6, .slice A303 x302.length c304), (7, .bool x307), (8, .int .i64 x308), (29, .bool false), (33, undef), (34, undef)]) (obs := [fun _ => (.bool (!x307) : Value) = .bool false]) (by kernel_rfl) (by kernel_rfl) (by kernel_rfl) (.inr fun w hs => trivial) (fun w hS => congrArg Value.bool (not_ff (h661))) (fun w hs => congrArg Value.bool (not_ff (h661))) ?_
                  refine at_xseg [8, 9, 10] 0 (#[true, true, true, true, true, true, true, true, true, true, true]) rfl (by kernel_rfl) [] [0, 3, 5, 6, 7, 8, 37] (L2 := [(0, .slice A48 p47.length c49), (3, .pointer (some ⟨g52, 0, none⟩)), (5, .slice A59 (([] : List T_impl_Key) ++ p47).length c60), (6, .slice A303 x302.length c304), (7, .bool x307), (8, .int .i64 x308), (37, .bool false)]) (obs := []) (by kernel_rfl) (by kernel_rfl) (by kernel_rfl) (.inr fun w hs => trivial) (fun w hS => trivial) (fun w hs => trivial) ?_
                  refine at_xend (by kernel_rfl) ?_
                  refine at_thn ?_
                  refine at_keep [0, 3, 5, 6, 7, 8, 37] (L2 := [(0, .slice A48 p47.length c49), (3, .pointer (some ⟨g52, 0, none⟩)), (5, .slice A59 (([] : List T_impl_Key) ++ p47).length c60), (6, .slice A303 x302.length c304), (7, .bool x307), (8, .int .i64 x308), (37, .bool false)]) rfl ?_
                  exact Jn549 _ _ _ ⟨_, false, rfl, rfl, H, hle, by omega, ho306, ho62, hr50⟩
                · rw [if_neg h661] at H
                  obtain ⟨h662, H⟩ := ite_some H
                  obtain ⟨cs664, hz665, hc663⟩ := hr50.elem z_impl_Key x308 h662 h312
                  obtain rfl := hz665
                  refine at_x hmo (fun w => CellsAt w ((A48.getD ad0).add (x308.toNat * 3)) [.int .i64 ((rdA z_impl_Key p47 x308).Map), str ((rdA z_impl_Key p47 x308).Keys), str ((rdA z_impl_Key p47 x308).Name)] 0 ∧ CellsAt w ⟨g52, 0, none⟩ [.int .i64 p51.Map, str p51.Keys, str p51.Name] 0) [] ?_
                  refine at_xseg [0, 1, 2, 3, 4, 5, 6, 7] 3 (#[true, true, true, true, true, true, true, true, false, false, false]) rfl (by kernel_rfl) [(2, .bool true), (6, .agg #[.int .i64 ((rdA z_impl_Key p47 x308).Map), str ((rdA z_impl_Key p47 x308).Keys), str ((rdA z_impl_Key p47 x308).Name)]), (7, .agg #[.int .i64 p51.Map, str p51.Keys, str p51.Name])] [0, 3, 5, 6, 7, 8, 29, 33, 34] (L2 := [(0, .slice A48 p47.length c49), (3, .pointer (some ⟨g52, 0, none⟩)), (5, .slice A59 (([] : List T_impl_Key) ++ p47).length c60), (6, .slice A303 x302.length c304), (7, .bool x307), (8, .int .i64 x308), (29, .bool true), (33, .agg #[.int .i64 ((rdA z_impl_Key p47 x308).Map), str ((rdA z_impl_Key p47 x308).Keys), str ((rdA z_impl_Key p47 x308).Name)]), (34, .agg #[.int .i64 p51.Map, str p51.Keys, str p51.Name])]) (obs := [fun _ => (.bool (!x307) : Value) = .bool true, fun _ => A48.isSome = true ∧ 0 ≤ x308 ∧ x308 < ((p47.length : Nat) : Int), fun w => CellsAt w ((A48.getD ad0).add (x308.toNat * 3)) [.int .i64 ((rdA z_impl_Key p47 x308).Map), str ((rdA z_impl_Key p47 x308).Keys), str ((rdA z_impl_Key p47 x308).Name)] 0, fun w => CellsAt w ⟨g52, 0, none⟩ [.int .i64 p51.Map, str p51.Keys, str p51.Name] 0]) (by kernel_rfl) (by kernel_rfl) (by kernel_rfl) (.inr fun w hs => ⟨⟨hc663 0 _ rfl hs, hc663 1 _ rfl hs, hc663 2 _ rfl hs, trivial⟩, cellsV (k := 0) hs rfl _ 0 (Nat.le_of_ble_eq_true (by kernel_rfl)) rfl⟩) (fun w hS => ⟨congrArg Value.bool (not_tt (ff_of h661)), ⟨hr50.ne x308 h662 h312, h662, h312⟩, hS.1, hS.2⟩) (fun w hs => ⟨congrArg Value.bool (not_tt (ff_of h661)), ⟨hr50.ne x308 h662 h312, h662, h312⟩, ⟨hc663 0 _ rfl hs, hc663 1 _ rfl hs, hc663 2 _ rfl hs, trivial⟩, cellsV (k := 0) hs rfl _ 0 (Nat.le_of_ble_eq_true (by kernel_rfl)) rfl⟩) ?_
                  refine at_x1 2 8 (#[true, true, true, true, true, true, true, true, true, false, false]) rfl (by kernel_rfl) (by kernel_rfl) rfl rfl ?_
                  obtain ⟨b6, H666, H⟩ := bind_some H
                  have hm_ := spec_l07Before.calls (I0 := I) H666
                  refine eff_call rfl rfl ok14 rfl rfl (show Meets Try.prog 14 ([.agg #[.int .i64 ((rdA z_impl_Key p47 x308).Map), str ((rdA z_impl_Key p47 x308).Keys), str ((rdA z_impl_Key p47 x308).Name)], .agg #[.int .i64 p51.Map, str p51.Keys, str p51.Name]] : List Value).toArray _ [] _ from hm_) (Mr := ([(g52, .cells #[.int .i64 p51.Map, str p51.Keys, str p51.Name] 25 (0, 0))] :: s61 :: s305 :: Fs)) (List.Perm.refl _) (fun v667 J668 M669 hq670 hJ671 => ?_)
                  replace hle := hle.trans hJ671
                  replace ho306 := ho306.mono hJ671
                  replace ho62 := ho62.mono hJ671
                  replace hr50 := hr50.mono hJ671
                  replace hc663 := hc_mono hc663 hJ671
                  obtain ⟨rfl, rfl⟩ := hq670
                  refine at_xS (fun w hs => ⟨⟨hc663 0 _ rfl hs, hc663 1 _ rfl hs, hc663 2 _ rfl hs, trivial⟩, cellsV (k := 0) hs rfl _ 0 (Nat.le_of_ble_eq_true (by kernel_rfl)) rfl⟩) ?_
                  refine at_xseg [9, 10] 0 (#[true, true, true, true, true, true, true, true, true, true, true]) rfl (by kernel_rfl) [] [0, 3, 5, 6, 7, 8, 37] (L2 := [(0, .slice A48 p47.length c49), (3, .pointer (some ⟨g52, 0, none⟩)), (5, .slice A59 (([] : List T_impl_Key) ++ p47).length c60), (6, .slice A303 x302.length c304), (7, .bool x307), (8, .int .i64 x308), (37, .bool (!b6))]) (obs := []) (by kernel_rfl) (by kernel_rfl) (by kernel_rfl) (.inr fun w hs => ⟨⟨hc663 0 _ rfl hs, hc663 1 _ rfl hs, hc663 2 _ rfl hs, trivial⟩, cellsV (k := 0) hs rfl _ 0 (Nat.le_of_ble_eq_true (by kernel_rfl)) rfl⟩) (fun w hS => trivial) (fun w hs => trivial) ?_
                  refine at_xend (by kernel_rfl) ?_
                  refine at_thn ?_
                  refine at_keep [0, 3, 5, 6, 7, 8, 37] (L2 := [(0, .slice A48 p47.length c49), (3, .pointer (some ⟨g52, 0, none⟩)), (5, .slice A59 (([] : List T_impl_Key) ++ p47).length c60), (6, .slice A303 x302.length c304), (7, .bool x307), (8, .int .i64 x308), (37, .bool (!b6))]) rfl ?_
                  exact Jn549 _ _ _ ⟨_, (!b6), rfl, rfl, H, hle, by omega, ho306, ho62, hr50⟩
          · rw [if_neg h312] at H
            refine at_cond_f rfl (decide_eq_false h312) ?_
            refine at_exit ?_
            refine at_then_exit ?_
            refine at_then_exit ?_
            refine at_in_hit ?_
            refine at_thn ?_
            refine at_keep [3, 5, 6, 7] (L2 := [(3, .pointer (some ⟨g52, 0, none⟩)), (5, .slice A59 (([] : List T_impl_Key) ++ p47).length c60), (6, .slice A303 x302.length c304), (7, .bool x307)]) rfl ?_
            exact Jn72 _ _ _ ⟨_, x302, A303, c304, s305, x307, rfl, rfl, H, hle, by omega, ho306, ho62⟩
    · rw [if_neg h69] at H
      refine at_cond_t rfl (not_tt (ff_of h69)) ?_
      refine at_seq ?_
      refine at_reg [] [4] (L2 := [(4, .slice A59 (([] : List T_impl_Key) ++ p47).length c60)]) (obs := []) (by kernel_rfl) ?_ ?_
      · intro w hs; exact trivial
      refine at_thn ?_
      refine at_ret ?_
      refine at_then_ret ?_
      obtain rfl := Option.some.inj H
      refine at_drop (k := 1) rfl rfl ?_
      refine at_done (vs := [.slice A59 (([] : List T_impl_Key) ++ p47).length c60]) (obs := []) (.inl rfl) [.tmp 4] [] rfl (by kernel_rfl) (fun w hs => trivial) (fun w hs => ⟨_, _, [s61], rfl, ⟨A59, c60, s61, rfl, rfl, ho62⟩, hle, hs⟩)

/-! ### (*loop.example/g00146/spec.l01Src).one: function 27 -/
def spec_l01Src_one (k : Nat) (p42 : T_spec_l01Src) (p46 : Int) : Option (Bool × T_spec_l01Src) := (spec_l01Src_n k p42 p46).bind fun b2 => (some ((b2.1 == 0), b2.2))
set_option maxHeartbeats 4000000 in
set_option maxRecDepth 100000 in
theorem spec_l01Src_one.calls {k : Nat} {p42 : T_spec_l01Src} {p46 : Int} {r : Bool × T_spec_l01Src} {I0 : Imm} {g41 : Nat} {A43 : Option Addr} {c44 : Nat} (H : spec_l01Src_one k p42 p46 = some r) (hr45 : Rd (Kd.int .u8) I0 A43 c44 p42.b) :
    Meets Try.prog 27 ([.pointer (some ⟨g41, 0, none⟩), .int .i64 p46] : List Value).toArray I0 [[(g41, .cells #[.slice A43 p42.b.length c44, .int .i64 p42.at_, .int .u64 p42.mix, .int .i64 p42.size] 53 (0, 0))]] (fun v J M => ∃ (A_1 : Option Addr) (c_2 : Nat), v = .bool r.1 ∧ M = [[(g41, .cells #[.slice A_1 r.2.b.length c_2, .int .i64 r.2.at_, .int .u64 r.2.mix, .int .i64 r.2.size] 53 (0, 0))]] ∧ Rd (Kd.int .u8) J A_1 c_2 r.2.b) := by
  have hle := ImmLe.refl I0
  unfold spec_l01Src_one at H
  refine fn_intro (fn := Try.f27) 9 Try.func27 rfl rfl rfl (fun E Fs => ?_)
  refine at_seq ?_
  refine at_reg [] [0, 1] (L2 := [(0, .pointer (some ⟨g41, 0, none⟩)), (1, .int .i64 p46)]) (obs := []) (by kernel_rfl) ?_ ?_
  · intro w hs; exact trivial
  refine at_thn ?_
  refine at_seq ?_
  refine at_ops [0, 1, 2, 3, 4] rfl ?_
  refine at_seg [0, 1] [2, 3, 4] rfl [] [5, 6] (L2 := [(5, .pointer (some ⟨g41, 0, none⟩)), (6, .int .i64 p46)]) (obs := []) (by kernel_rfl) ?_ ?_
  · intro w hs; exact trivial
  refine at_eff rfl rfl ?_
  obtain ⟨b2, H47, H⟩ := bind_some H
  refine eff_call rfl rfl ok26 rfl rfl (show Meets Try.prog 26 ([.pointer (some ⟨g41, 0, none⟩), .int .i64 p46] : List Value).toArray _ [[(g41, .cells #[.slice A43 p42.b.length c44, .int .i64 p42.at_, .int .u64 p42.mix, .int .i64 p42.size] 53 (0, 0))]] _ from spec_l01Src_n.calls H47 hr45) (Mr := (Fs)) (List.Perm.refl _) (fun v48 J49 M50 hq51 hJ52 => ?_)
  replace hle := hle.trans hJ52
  replace hr45 := hr45.mono hJ52
  obtain ⟨A53, c54, rfl, rfl, hr55⟩ := hq51
  refine at_seg [3, 4] [] rfl [] [4] (L2 := [(4, .bool (b2.1 == 0))]) (obs := []) (by kernel_rfl) ?_ ?_
  · intro w hs; exact trivial
  refine at_end ?_
  refine at_thn ?_
  refine at_ret ?_
  obtain rfl := Option.some.inj H
  refine at_done (vs := [.bool (b2.1 == 0)]) (obs := []) (.inl rfl) [.tmp 4] [] rfl (by kernel_rfl) (fun w hs => trivial) (fun w hs => ⟨_, _, [[(g41, .cells #[.slice A53 b2.2.b.length c54, .int .i64 b2.2.at_, .int .u64 b2.2.mix, .int .i64 b2.2.size] 53 (0, 0))]], rfl, ⟨A53, c54, rfl, rfl, hr55⟩, hle, hs⟩)
end Go.Proofs.Ytloojlhlfhmoeaa
