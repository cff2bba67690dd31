import Derived.Test.YtloojlhlfhmoeaaG3
namespace Go.Proofs.Ytloojlhlfhmoeaa
open Go Eng
set_option linter.unusedVariables false
set_option linter.unusedSimpArgs false
/-! ### (*loop.example/g00146/spec.l01Src).l07Keys: function 12 -/
mutual
def spec_l01Src_l07Keys_l1 : Nat → (List T_impl_Key) → Int → (List Int) → Int → Int → Int → Option ((List T_impl_Key) × T_spec_l01Src)
  | 0, _, _, _, _, _, _ => none
  | k + 1, x541, x546, x547, x551, x552, x553 => if x546 > 0 then ((spec_l01Src_l07Key k (⟨x547, x551, x552, x553⟩ : T_spec_l01Src)).bind fun b12 => ((spec_KeyBind k x541 b12.1).bind fun b13 => (spec_l01Src_l07Keys_l1 k b13 (IntKind.i64.wrap (x546 - 1)) b12.2.b b12.2.at_ b12.2.mix b12.2.size))) else (spec_l01Src_l07Keys_j0 k x541 x547 x551 x552 x553)
def spec_l01Src_l07Keys_j0 : Nat → (List T_impl_Key) → (List Int) → Int → Int → Int → Option ((List T_impl_Key) × T_spec_l01Src)
  | 0, _, _, _, _, _ => none
  | k + 1, x129, x134, x138, x139, x140 => (spec_l01Src_one k (⟨x134, x138, x139, x140⟩ : T_spec_l01Src) 15).bind fun b4 => (if b4.1 = true then ((spec_l01Src_l07Key k b4.2).bind fun b5 => ((spec_l01Src_n k b5.2 4).bind fun b6 => (if b6.1 = 0 then ((spec_l01Src_n k b6.2 2).bind fun b7 => (spec_l01Src_l07Keys_j2 k b7.2.b b7.2.at_ b7.2.mix b7.2.size (IntKind.i64.wrap (10 * b7.1)) b5.1.Keys b5.1.Name x129)) else (if b6.1 = 1 then ((spec_l01Src_n k b6.2 2).bind fun b8 => ((spec_l01Src_l07Bytes k b8.2 (IntKind.i64.wrap (7 * b8.1))).bind fun b9 => (spec_l01Src_l07Keys_j2 k b9.2.b b9.2.at_ b9.2.mix b9.2.size b5.1.Map b9.1 b5.1.Name x129))) else (if b6.1 = 2 then ((spec_l01Src_pick k b6.2 ([([] : List UInt8), ([65] : List UInt8), ([97, 98, 99, 100, 101, 102, 103, 104, 105, 106, 107, 108, 109, 110, 111, 112, 113, 114, 115, 116, 117] : List UInt8)] : List (List UInt8))).bind fun b10 => (spec_l01Src_l07Keys_j2 k b10.2.b b10.2.at_ b10.2.mix b10.2.size b5.1.Map b5.1.Keys b10.1 x129)) else (spec_l01Src_l07Keys_j2 k b6.2.b b6.2.at_ b6.2.mix b6.2.size b5.1.Map b5.1.Keys b5.1.Name x129)))))) else (spec_l01Src_l07Keys_j1 k x129 b4.2.b b4.2.at_ b4.2.mix b4.2.size))
def spec_l01Src_l07Keys_j2 : Nat → (List Int) → Int → Int → Int → Int → (List UInt8) → (List UInt8) → (List T_impl_Key) → Option ((List T_impl_Key) × T_spec_l01Src)
  | 0, _, _, _, _, _, _, _, _ => none
  | k + 1, x426, x430, x431, x432, x433, x434, x435, x129 => if ([] : List T_impl_Key).length + x129.length ≤ 3518437208883 then (if (([] : List T_impl_Key) ++ x129).length + ([(⟨x433, x434, x435⟩ : T_impl_Key)] : List T_impl_Key).length ≤ 3518437208883 then (spec_l01Src_l07Keys_j1 k ((([] : List T_impl_Key) ++ x129) ++ ([(⟨x433, x434, x435⟩ : T_impl_Key)] : List T_impl_Key)) x426 x430 x431 x432) else none) else none
def spec_l01Src_l07Keys_j1 : Nat → (List T_impl_Key) → (List Int) → Int → Int → Int → Option ((List T_impl_Key) × T_spec_l01Src)
  | 0, _, _, _, _, _ => none
  | k + 1, x244, x249, x253, x254, x255 => (spec_l01Src_one k (⟨x249, x253, x254, x255⟩ : T_spec_l01Src) 40).bind fun b2 => (if b2.1 = true then (spec_l01Src_l07Keys_l0 k ([] : List T_impl_Key) 0 b2.2.b b2.2.at_ b2.2.mix b2.2.size) else (some (x244, b2.2)))
def spec_l01Src_l07Keys_l0 : Nat → (List T_impl_Key) → Int → (List Int) → Int → Int → Int → Option ((List T_impl_Key) × T_spec_l01Src)
  | 0, _, _, _, _, _, _ => none
  | k + 1, x270, x275, x276, x280, x281, x282 => (spec_l01Src_n k (⟨x276, x280, x281, x282⟩ : T_spec_l01Src) 3).bind fun b3 => (if (x270.length : Int) < (IntKind.i64.wrap (59 + b3.1)) then (if x270.length + ([(⟨1, toB ([IntKind.u8.wrap (IntKind.i64.wrap (33 + x275))] : List Int), ([120] : List UInt8)⟩ : T_impl_Key)] : List T_impl_Key).length ≤ 3518437208883 then (spec_l01Src_l07Keys_l0 k (x270 ++ ([(⟨1, toB ([IntKind.u8.wrap (IntKind.i64.wrap (33 + x275))] : List Int), ([120] : List UInt8)⟩ : T_impl_Key)] : List T_impl_Key)) (IntKind.i64.wrap (x275 + 1)) b3.2.b b3.2.at_ b3.2.mix b3.2.size) else none) else (some (x270, b3.2)))
end
def spec_l01Src_l07Keys (k : Nat) (p22 : T_spec_l01Src) : Option ((List T_impl_Key) × T_spec_l01Src) := (spec_l01Src_n k p22 (IntKind.i64.wrap (8 + p22.size))).bind fun b11 => (spec_l01Src_l07Keys_l1 k ([] : List T_impl_Key) b11.1 b11.2.b b11.2.at_ b11.2.mix b11.2.size)
set_option maxHeartbeats 4000000 in
set_option maxRecDepth 100000 in
theorem spec_l01Src_l07Keys.calls {k : Nat} {p22 : T_spec_l01Src} {r : (List T_impl_Key) × T_spec_l01Src} {I0 : Imm} {g21 : Nat} {A23 : Option Addr} {c24 : Nat} (H : spec_l01Src_l07Keys k p22 = some r) (hr25 : Rd (Kd.int .u8) I0 A23 c24 p22.b) :
    Meets Try.prog 12 ([.pointer (some ⟨g21, 0, none⟩)] : List Value).toArray I0 [[(g21, .cells #[.slice A23 p22.b.length c24, .int .i64 p22.at_, .int .u64 p22.mix, .int .i64 p22.size] 53 (0, 0))]] (fun v J M => ∃ (A_1 : Option Addr) (c_2 : Nat) (s_3 : Seg) (A_4 : Option Addr) (c_5 : Nat), v = .slice A_1 r.1.length c_2 ∧ M = [s_3, [(g21, .cells #[.slice A_4 r.2.b.length c_5, .int .i64 r.2.at_, .int .u64 r.2.mix, .int .i64 r.2.size] 53 (0, 0))]] ∧ Own k_impl_Key 25 J A_1 c_2 r.1 s_3 ∧ Rd (Kd.int .u8) J A_4 c_5 r.2.b) := by
  have hle := ImmLe.refl I0
  unfold spec_l01Src_l07Keys at H
  refine fn_intro (fn := Try.f12) 76 Try.func12 rfl rfl rfl (fun E Fs => ?_)
  refine at_seq ?_
  refine at_reg [] [0] (L2 := [(0, .pointer (some ⟨g21, 0, none⟩))]) (obs := []) (by kernel_rfl) ?_ ?_
  · intro w hs; exact trivial
  refine at_thn ?_
  refine at_seq ?_
  refine at_ops [0, 1] rfl ?_
  refine at_eff rfl rfl ?_
  refine eff_buildSlice (e := 25) (cells := #[]) ([] : List T_impl_Key).length rfl rfl rfl (by kernel_rfl) (fun g26 => ?_)
  have ho27 := own_lit (K := k_impl_Key) (e := 25) (I := I0) (xs := ([] : List T_impl_Key)) (css := []) (cells := #[]) (b := g26) trivial rfl
  refine at_seg [1] [] rfl [] [0, 3] (L2 := [(0, .pointer (some ⟨g21, 0, none⟩)), (3, .slice (some ⟨g26, 0, none⟩ : Option Addr) ([] : List T_impl_Key).length (([] : List T_impl_Key).length))]) (obs := []) (by kernel_rfl) ?_ ?_
  · intro w hs; exact trivial
  refine at_end ?_
  refine at_thn ?_
  refine at_join (fun L I Ms => ∃ (k141 : Nat), ∃ (x129 : List T_impl_Key) (A130 : Option Addr) (c131 : Nat) (s132 : Seg) (x134 : List Int) (A135 : Option Addr) (c136 : Nat) (x138 : Int) (x139 : Int) (x140 : Int), L = [(0, .pointer (some ⟨g21, 0, none⟩)), (3, .slice A130 x129.length c131)] ∧ Ms = ([(g21, .cells #[.slice A135 x134.length c136, .int .i64 x138, .int .u64 x139, .int .i64 x140] 53 (0, 0))] :: s132 :: Fs) ∧ spec_l01Src_l07Keys_j0 k141 x129 x134 x138 x139 x140 = some r ∧ ImmLe I0 I ∧ k141 ≤ k ∧ Own k_impl_Key 25 I A130 c131 x129 s132 ∧ Rd (Kd.int .u8) I A135 c136 x134) ?_ ?_
  · clear H hle ho27 hr25
    intro L I Ms h_; obtain ⟨k141, x129, A130, c131, s132, x134, A135, c136, x138, x139, x140, hL_, hM_, H, hle, hk142, ho133, hr137⟩ := h_; rw [hL_, hM_]; clear hL_ hM_ L Ms
    rcases k141 with _ | k141
    · exact (no_none H).elim
    rw [spec_l01Src_l07Keys_j0] at H
    refine at_join (fun L I Ms => ∃ (k256 : Nat), ∃ (x244 : List T_impl_Key) (A245 : Option Addr) (c246 : Nat) (s247 : Seg) (x249 : List Int) (A250 : Option Addr) (c251 : Nat) (x253 : Int) (x254 : Int) (x255 : Int), L = [(0, .pointer (some ⟨g21, 0, none⟩)), (3, .slice A245 x244.length c246)] ∧ Ms = ([(g21, .cells #[.slice A250 x249.length c251, .int .i64 x253, .int .u64 x254, .int .i64 x255] 53 (0, 0))] :: s247 :: Fs) ∧ spec_l01Src_l07Keys_j1 k256 x244 x249 x253 x254 x255 = some r ∧ ImmLe I0 I ∧ k256 ≤ k141 ∧ Own k_impl_Key 25 I A245 c246 x244 s247 ∧ Rd (Kd.int .u8) I A250 c251 x249) ?_ ?_
    · clear H hle ho133 hr137
      intro L I Ms h_; obtain ⟨k256, x244, A245, c246, s247, x249, A250, c251, x253, x254, x255, hL_, hM_, H, hle, hk257, ho248, hr252⟩ := h_; rw [hL_, hM_]; clear hL_ hM_ L Ms
      rcases k256 with _ | k256
      · exact (no_none H).elim
      rw [spec_l01Src_l07Keys_j1] at H
      refine at_seq ?_
      refine at_seq ?_
      refine at_ops [0, 1] rfl ?_
      refine at_seg [0] [1] rfl [] [0, 3, 55] (L2 := [(0, .pointer (some ⟨g21, 0, none⟩)), (3, .slice A245 x244.length c246), (55, .pointer (some ⟨g21, 0, none⟩))]) (obs := []) (by kernel_rfl) ?_ ?_
      · intro w hs; exact trivial
      refine at_eff rfl rfl ?_
      obtain ⟨b2, H258, H⟩ := bind_some H
      refine eff_call rfl rfl ok27 rfl rfl (show Meets Try.prog 27 ([.pointer (some ⟨g21, 0, none⟩), .int .i64 40] : List Value).toArray _ [[(g21, .cells #[.slice A250 x249.length c251, .int .i64 x253, .int .u64 x254, .int .i64 x255] 53 (0, 0))]] _ from spec_l01Src_one.calls H258 hr252) (Mr := (s247 :: Fs)) (List.Perm.refl _) (fun v259 J260 M261 hq262 hJ263 => ?_)
      replace hle := hle.trans hJ263
      replace ho248 := ho248.mono hJ263
      replace hr252 := hr252.mono hJ263
      obtain ⟨A264, c265, rfl, rfl, hr266⟩ := hq262
      refine at_end ?_
      refine at_thn ?_
      by_cases h267 : b2.1 = true
      · rw [if_pos h267] at H
        refine at_cond_t rfl (h267) ?_
        refine at_seq ?_
        refine at_ops [0, 1] rfl ?_
        refine at_eff rfl rfl ?_
        refine eff_buildSlice (e := 25) (cells := #[]) ([] : List T_impl_Key).length rfl rfl rfl (by kernel_rfl) (fun g268 => ?_)
        have ho269 := own_lit (K := k_impl_Key) (e := 25) (I := J260) (xs := ([] : List T_impl_Key)) (css := []) (cells := #[]) (b := g268) trivial rfl
        refine at_seg [1] [] rfl [] [0, 3] (L2 := [(0, .pointer (some ⟨g21, 0, none⟩)), (3, .slice (some ⟨g268, 0, none⟩ : Option Addr) ([] : List T_impl_Key).length (([] : List T_impl_Key).length))]) (obs := []) (by kernel_rfl) ?_ ?_
        · intro w hs; exact trivial
        refine at_end ?_
        refine at_thn ?_
        refine at_seq ?_
        refine at_reg [] [0, 3, 6] (L2 := [(0, .pointer (some ⟨g21, 0, none⟩)), (3, .slice (some ⟨g268, 0, none⟩ : Option Addr) ([] : List T_impl_Key).length (([] : List T_impl_Key).length)), (6, .int .i64 0)]) (obs := []) (by kernel_rfl) ?_ ?_
        · intro w hs; exact trivial
        refine at_thn ?_
        refine at_block ?_
        refine at_drop (k := 2) rfl rfl ?_
        refine at_perm ((perm_at (k := 1) rfl).trans ((List.Perm.refl _).cons _)) ?_
        refine at_keep [0, 3, 6] (L2 := [(0, .pointer (some ⟨g21, 0, none⟩)), (3, .slice (some ⟨g268, 0, none⟩ : Option Addr) ([] : List T_impl_Key).length (([] : List T_impl_Key).length)), (6, .int .i64 0)]) rfl ?_
        refine at_loop (fun k283 L I Ms => ∃ (x270 : List T_impl_Key) (A271 : Option Addr) (c272 : Nat) (s273 : Seg) (x275 : Int) (x276 : List Int) (A277 : Option Addr) (c278 : Nat) (x280 : Int) (x281 : Int) (x282 : Int), L = [(0, .pointer (some ⟨g21, 0, none⟩)), (3, .slice A271 x270.length c272), (6, .int .i64 x275)] ∧ Ms = ([(g21, .cells #[.slice A277 x276.length c278, .int .i64 x280, .int .u64 x281, .int .i64 x282] 53 (0, 0))] :: s273 :: Fs) ∧ spec_l01Src_l07Keys_l0 k283 x270 x275 x276 x280 x281 x282 = some r ∧ ImmLe I0 I ∧ k283 ≤ k256 ∧ Own k_impl_Key 25 I A271 c272 x270 s273 ∧ Rd (Kd.int .u8) I A277 c278 x276) ?_ ?_ k256 ⟨([] : List T_impl_Key), (some ⟨g268, 0, none⟩ : Option Addr), ([] : List T_impl_Key).length, [(g268, .cells #[] 25 (0, 0))], 0, b2.2.b, A264, c265, b2.2.at_, b2.2.mix, b2.2.size, rfl, rfl, H, hle, Nat.le_refl _, ho269, hr266⟩
        · rintro L I Ms ⟨_, _, _, _, _, _, _, _, _, _, _, rfl, rfl, H, _⟩; exact no_none H
        · clear H hle ho269 hr266
          intro k283 ih284 L I Ms h_; obtain ⟨x270, A271, c272, s273, x275, x276, A277, c278, x280, x281, x282, hL_, hM_, H, hle, hk285, ho274, hr279⟩ := h_; rw [hL_, hM_]; clear hL_ hM_ L Ms
          rw [spec_l01Src_l07Keys_l0] at H
          refine at_seq ?_
          refine at_seq ?_
          refine at_ops [0, 1, 2, 3, 4, 5] rfl ?_
          refine at_seg [0, 1, 2] [3, 4, 5] rfl [] [0, 3, 6, 59, 60] (L2 := [(0, .pointer (some ⟨g21, 0, none⟩)), (3, .slice A271 x270.length c272), (6, .int .i64 x275), (59, .int .i64 (x270.length : Int)), (60, .pointer (some ⟨g21, 0, none⟩))]) (obs := []) (by kernel_rfl) ?_ ?_
          · intro w hs; exact trivial
          refine at_eff rfl rfl ?_
          obtain ⟨b3, H286, H⟩ := bind_some H
          refine eff_call rfl rfl ok26 rfl rfl (show Meets Try.prog 26 ([.pointer (some ⟨g21, 0, none⟩), .int .i64 3] : List Value).toArray _ [[(g21, .cells #[.slice A277 x276.length c278, .int .i64 x280, .int .u64 x281, .int .i64 x282] 53 (0, 0))]] _ from spec_l01Src_n.calls H286 hr279) (Mr := (s273 :: Fs)) (List.Perm.refl _) (fun v287 J288 M289 hq290 hJ291 => ?_)
          replace hle := hle.trans hJ291
          replace ho274 := ho274.mono hJ291
          replace hr279 := hr279.mono hJ291
          obtain ⟨A292, c293, rfl, rfl, hr294⟩ := hq290
          refine at_seg [4, 5] [] rfl [] [0, 3, 6, 63] (L2 := [(0, .pointer (some ⟨g21, 0, none⟩)), (3, .slice A271 x270.length c272), (6, .int .i64 x275), (63, .bool (decide ((x270.length : Int) < (IntKind.i64.wrap (59 + b3.1)))))]) (obs := []) (by kernel_rfl) ?_ ?_
          · intro w hs; exact trivial
          refine at_end ?_
          refine at_thn ?_
          by_cases h295 : (x270.length : Int) < (IntKind.i64.wrap (59 + b3.1))
          · rw [if_pos h295] at H
            refine at_cond_t rfl (decide_eq_true h295) ?_
            refine at_skip ?_
            refine at_thn ?_
            refine at_seq ?_
            refine at_block ?_
            refine at_ops [0, 1, 2, 3, 4, 5, 6, 7, 8, 9] rfl ?_
            refine at_seg [0, 1, 2, 3] [4, 5, 6, 7, 8, 9] rfl [] [0, 3, 6, 66, 69] (L2 := [(0, .pointer (some ⟨g21, 0, none⟩)), (3, .slice A271 x270.length c272), (6, .int .i64 x275), (66, .slice A271 x270.length c272), (69, .int .u8 (IntKind.u8.wrap (IntKind.i64.wrap (33 + x275))))]) (obs := []) (by kernel_rfl) ?_ ?_
            · intro w hs; exact trivial
            refine at_eff rfl rfl ?_
            refine eff_buildSlice (e := 5) (cells := #[.int .u8 (IntKind.u8.wrap (IntKind.i64.wrap (33 + x275)))]) ([IntKind.u8.wrap (IntKind.i64.wrap (33 + x275))] : List Int).length rfl rfl rfl (by kernel_rfl) (fun g296 => ?_)
            have ho297 := own_lit (K := (Kd.int .u8)) (e := 5) (I := J288) (xs := ([IntKind.u8.wrap (IntKind.i64.wrap (33 + x275))] : List Int)) (css := [[.int .u8 (IntKind.u8.wrap (IntKind.i64.wrap (33 + x275)))]]) (cells := #[.int .u8 (IntKind.u8.wrap (IntKind.i64.wrap (33 + x275)))]) (b := g296) ⟨rfl, trivial⟩ rfl
            refine at_eff rfl rfl ?_
            refine eff_bytesStr (xs := ([IntKind.u8.wrap (IntKind.i64.wrap (33 + x275))] : List Int)) rfl rfl und22 und5 und9 rfl (fun w hs => ho297.rowAt (k := 0) hs rfl) ?_
            refine at_seg [6] [7, 8, 9] rfl [] [0, 3, 6, 66, 72] (L2 := [(0, .pointer (some ⟨g21, 0, none⟩)), (3, .slice A271 x270.length c272), (6, .int .i64 x275), (66, .slice A271 x270.length c272), (72, .agg #[.int .i64 1, str (toB ([IntKind.u8.wrap (IntKind.i64.wrap (33 + x275))] : List Int)), str ([120] : List UInt8)])]) (obs := []) (by kernel_rfl) ?_ ?_
            · intro w hs; exact trivial
            refine at_eff rfl rfl ?_
            refine eff_buildSlice (e := 25) (cells := #[.int .i64 1, str (toB ([IntKind.u8.wrap (IntKind.i64.wrap (33 + x275))] : List Int)), str ([120] : List UInt8)]) ([(⟨1, toB ([IntKind.u8.wrap (IntKind.i64.wrap (33 + x275))] : List Int), ([120] : List UInt8)⟩ : T_impl_Key)] : List T_impl_Key).length rfl rfl rfl (by kernel_rfl) (fun g298 => ?_)
            have ho299 := own_lit (K := k_impl_Key) (e := 25) (I := J288) (xs := ([(⟨1, toB ([IntKind.u8.wrap (IntKind.i64.wrap (33 + x275))] : List Int), ([120] : List UInt8)⟩ : T_impl_Key)] : List T_impl_Key)) (css := [[.int .i64 1, str (toB ([IntKind.u8.wrap (IntKind.i64.wrap (33 + x275))] : List Int)), str ([120] : List UInt8)]]) (cells := #[.int .i64 1, str (toB ([IntKind.u8.wrap (IntKind.i64.wrap (33 + x275))] : List Int)), str ([120] : List UInt8)]) (b := g298) ⟨rfl, trivial⟩ rfl
            refine at_eff rfl rfl ?_
            obtain ⟨h300, H⟩ := ite_some H
            obtain ⟨i_, hi_, hz_, hs_, hb_⟩ := info25
            refine eff_append (K := k_impl_Key) (xs := x270) (ys := ([(⟨1, toB ([IntKind.u8.wrap (IntKind.i64.wrap (33 + x275))] : List Int), ([120] : List UInt8)⟩ : T_impl_Key)] : List T_impl_Key)) 3 rfl rfl rfl rfl rfl und23 und23 hi_ hz_ hs_ rfl rfl rfl ho274 rfl (fun w hs => ho299.rowAt (k := 0) hs rfl) (by rw [hb_]; omega) (by omega) (fun A301 c302 s303 ho304 => ?_)
            refine at_seg [9] [] rfl [] [0, 3, 6] (L2 := [(0, .pointer (some ⟨g21, 0, none⟩)), (3, .slice A301 (x270 ++ ([(⟨1, toB ([IntKind.u8.wrap (IntKind.i64.wrap (33 + x275))] : List Int), ([120] : List UInt8)⟩ : T_impl_Key)] : List T_impl_Key)).length c302), (6, .int .i64 x275)]) (obs := []) (by kernel_rfl) ?_ ?_
            · intro w hs; exact trivial
            refine at_end ?_
            refine at_in_norm ?_
            refine at_thn ?_
            refine at_reg [] [0, 3, 6] (L2 := [(0, .pointer (some ⟨g21, 0, none⟩)), (3, .slice A301 (x270 ++ ([(⟨1, toB ([IntKind.u8.wrap (IntKind.i64.wrap (33 + x275))] : List Int), ([120] : List UInt8)⟩ : T_impl_Key)] : List T_impl_Key)).length c302), (6, .int .i64 (IntKind.i64.wrap (x275 + 1)))]) (obs := []) (by kernel_rfl) ?_ ?_
            · intro w hs; exact trivial
            refine at_thn ?_
            refine at_drop (k := 0) rfl rfl ?_
            refine at_drop (k := 0) rfl rfl ?_
            refine at_keep [0, 3, 6] (L2 := [(0, .pointer (some ⟨g21, 0, none⟩)), (3, .slice A301 (x270 ++ ([(⟨1, toB ([IntKind.u8.wrap (IntKind.i64.wrap (33 + x275))] : List Int), ([120] : List UInt8)⟩ : T_impl_Key)] : List T_impl_Key)).length c302), (6, .int .i64 (IntKind.i64.wrap (x275 + 1)))]) rfl ?_
            exact ih284 _ (by omega) _ _ _ ⟨(x270 ++ ([(⟨1, toB ([IntKind.u8.wrap (IntKind.i64.wrap (33 + x275))] : List Int), ([120] : List UInt8)⟩ : T_impl_Key)] : List T_impl_Key)), A301, c302, s303, IntKind.i64.wrap (x275 + 1), b3.2.b, A292, c293, b3.2.at_, b3.2.mix, b3.2.size, rfl, rfl, H, hle, by omega, ho304, hr294⟩
          · rw [if_neg h295] at H
            refine at_cond_f rfl (decide_eq_false h295) ?_
            refine at_exit ?_
            refine at_then_exit ?_
            refine at_then_exit ?_
            refine at_in_hit ?_
            refine at_thn ?_
            refine at_seq ?_
            refine at_reg [] [2] (L2 := [(2, .slice A271 x270.length c272)]) (obs := []) (by kernel_rfl) ?_ ?_
            · intro w hs; exact trivial
            refine at_thn ?_
            refine at_ret ?_
            obtain rfl := Option.some.inj H
            refine at_perm ((perm_at (k := 1) rfl).trans ((List.Perm.refl _).cons _)) ?_
            refine at_done (vs := [.slice A271 x270.length c272]) (obs := []) (.inl rfl) [.tmp 2] [] rfl (by kernel_rfl) (fun w hs => trivial) (fun w hs => ⟨_, _, [s273, [(g21, .cells #[.slice A292 b3.2.b.length c293, .int .i64 b3.2.at_, .int .u64 b3.2.mix, .int .i64 b3.2.size] 53 (0, 0))]], rfl, ⟨A271, c272, s273, A292, c293, rfl, rfl, ho274, hr294⟩, hle, hs⟩)
      · rw [if_neg h267] at H
        refine at_cond_f rfl (ff_of h267) ?_
        refine at_skip ?_
        refine at_thn ?_
        refine at_seq ?_
        refine at_reg [] [2] (L2 := [(2, .slice A245 x244.length c246)]) (obs := []) (by kernel_rfl) ?_ ?_
        · intro w hs; exact trivial
        refine at_thn ?_
        refine at_ret ?_
        obtain rfl := Option.some.inj H
        refine at_perm ((perm_at (k := 1) rfl).trans ((List.Perm.refl _).cons _)) ?_
        refine at_done (vs := [.slice A245 x244.length c246]) (obs := []) (.inl rfl) [.tmp 2] [] rfl (by kernel_rfl) (fun w hs => trivial) (fun w hs => ⟨_, _, [s247, [(g21, .cells #[.slice A264 b2.2.b.length c265, .int .i64 b2.2.at_, .int .u64 b2.2.mix, .int .i64 b2.2.size] 53 (0, 0))]], rfl, ⟨A245, c246, s247, A264, c265, rfl, rfl, ho248, hr266⟩, hle, hs⟩)
    · intro Jn143
      refine at_seq ?_
      refine at_ops [0, 1] rfl ?_
      refine at_seg [0] [1] rfl [] [0, 3, 23] (L2 := [(0, .pointer (some ⟨g21, 0, none⟩)), (3, .slice A130 x129.length c131), (23, .pointer (some ⟨g21, 0, none⟩))]) (obs := []) (by kernel_rfl) ?_ ?_
      · intro w hs; exact trivial
      refine at_eff rfl rfl ?_
      obtain ⟨b4, H305, H⟩ := bind_some H
      refine eff_call rfl rfl ok27 rfl rfl (show Meets Try.prog 27 ([.pointer (some ⟨g21, 0, none⟩), .int .i64 15] : List Value).toArray _ [[(g21, .cells #[.slice A135 x134.length c136, .int .i64 x138, .int .u64 x139, .int .i64 x140] 53 (0, 0))]] _ from spec_l01Src_one.calls H305 hr137) (Mr := (s132 :: Fs)) (List.Perm.refl _) (fun v306 J307 M308 hq309 hJ310 => ?_)
      replace hle := hle.trans hJ310
      replace ho133 := ho133.mono hJ310
      replace hr137 := hr137.mono hJ310
      obtain ⟨A311, c312, rfl, rfl, hr313⟩ := hq309
      refine at_end ?_
      refine at_thn ?_
      by_cases h314 : b4.1 = true
      · rw [if_pos h314] at H
        refine at_cond_t rfl (h314) ?_
        refine at_seq ?_
        refine at_ops [0, 1, 2, 3] rfl ?_
        refine at_seg [0] [1, 2, 3] rfl [] [0, 3, 25] (L2 := [(0, .pointer (some ⟨g21, 0, none⟩)), (3, .slice A130 x129.length c131), (25, .pointer (some ⟨g21, 0, none⟩))]) (obs := []) (by kernel_rfl) ?_ ?_
        · intro w hs; exact trivial
        refine at_eff rfl rfl ?_
        obtain ⟨b5, H315, H⟩ := bind_some H
        refine eff_call rfl rfl ok13 rfl rfl (show Meets Try.prog 13 ([.pointer (some ⟨g21, 0, none⟩)] : List Value).toArray _ [[(g21, .cells #[.slice A311 b4.2.b.length c312, .int .i64 b4.2.at_, .int .u64 b4.2.mix, .int .i64 b4.2.size] 53 (0, 0))]] _ from spec_l01Src_l07Key.calls H315 hr313) (Mr := (s132 :: Fs)) (List.Perm.refl _) (fun v316 J317 M318 hq319 hJ320 => ?_)
        replace hle := hle.trans hJ320
        replace ho133 := ho133.mono hJ320
        replace hr313 := hr313.mono hJ320
        obtain ⟨A321, c322, rfl, rfl, hr323⟩ := hq319
        refine at_eff rfl rfl ?_
        obtain ⟨i_, hi_, hz_, _, _⟩ := info25
        refine eff_alloc rfl rfl hi_ hz_ #[.int .i64 0, str ([] : List UInt8), str ([] : List UInt8)] rfl (fun g324 => ?_)
        refine at_eff rfl rfl ?_
        refine eff_store 0 rfl rfl rfl rfl rfl rfl (.inl (Nat.le_refl _)) rfl (Nat.le_of_ble_eq_true (by kernel_rfl)) rfl ?_
        refine at_end ?_
        refine at_thn ?_
        refine at_join (fun L I Ms => ∃ (k436 : Nat), ∃ (x426 : List Int) (A427 : Option Addr) (c428 : Nat) (x430 : Int) (x431 : Int) (x432 : Int) (x433 : Int) (x434 : List UInt8) (x435 : List UInt8), L = [(0, .pointer (some ⟨g21, 0, none⟩)), (3, .slice A130 x129.length c131), (5, .pointer (some ⟨g324, 0, none⟩))] ∧ Ms = ([(g21, .cells #[.slice A427 x426.length c428, .int .i64 x430, .int .u64 x431, .int .i64 x432] 53 (0, 0))] :: [(g324, .cells #[.int .i64 x433, str x434, str x435] 25 (0, 0))] :: s132 :: Fs) ∧ spec_l01Src_l07Keys_j2 k436 x426 x430 x431 x432 x433 x434 x435 x129 = some r ∧ ImmLe I0 I ∧ k436 ≤ k141 ∧ Own k_impl_Key 25 I A130 c131 x129 s132 ∧ Rd (Kd.int .u8) I A427 c428 x426) ?_ ?_
        · clear H hle ho133 hr323
          intro L I Ms h_; obtain ⟨k436, x426, A427, c428, x430, x431, x432, x433, x434, x435, hL_, hM_, H, hle, hk437, ho133, hr429⟩ := h_; rw [hL_, hM_]; clear hL_ hM_ L Ms
          rcases k436 with _ | k436
          · exact (no_none H).elim
          rw [spec_l01Src_l07Keys_j2] at H
          refine at_x hmo (fun w => CellsAt w ⟨g324, 0, none⟩ [.int .i64 x433, str x434, str x435] 0) [5] ?_
          refine at_xseg [1, 3] 5 (#[false, true, false, true, false, false, false]) rfl (by kernel_rfl) [(3, .agg #[.int .i64 x433, str x434, str x435])] [0, 3, 50, 52] (L2 := [(0, .pointer (some ⟨g21, 0, none⟩)), (3, .slice A130 x129.length c131), (50, .slice A130 x129.length c131), (52, .agg #[.int .i64 x433, str x434, str x435])]) (obs := [fun w => CellsAt w ⟨g324, 0, none⟩ [.int .i64 x433, str x434, str x435] 0]) (by kernel_rfl) (by kernel_rfl) (by kernel_rfl) (.inr fun w hs => cellsV (k := 1) hs rfl _ 0 (Nat.le_of_ble_eq_true (by kernel_rfl)) rfl) (fun w hS => hS) (fun w hs => cellsV (k := 1) hs rfl _ 0 (Nat.le_of_ble_eq_true (by kernel_rfl)) rfl) ?_
          refine at_xall (fuel := 4) [0, 4] (by kernel_rfl) (by simp) (List.forall_mem_cons.2 ⟨?_, (List.forall_mem_cons.2 ⟨?_, fun _ h => nomatch h⟩)⟩)
          · refine at_xone (#[true, true, false, true, false, false, false]) (by kernel_rfl) rfl rfl ?_
            refine eff_buildSlice (e := 25) (cells := #[]) ([] : List T_impl_Key).length rfl rfl rfl (by kernel_rfl) (fun g438 => ?_)
            have ho439 := own_lit (K := k_impl_Key) (e := 25) (I := I) (xs := ([] : List T_impl_Key)) (css := []) (cells := #[]) (b := g438) trivial rfl
            refine at_xS (fun w hs => cellsV (k := 2) hs rfl _ 0 (Nat.le_of_ble_eq_true (by kernel_rfl)) rfl) ?_
            refine at_xall (fuel := 3) [2, 4] (by kernel_rfl) (by simp) (List.forall_mem_cons.2 ⟨?_, (List.forall_mem_cons.2 ⟨?_, fun _ h => nomatch h⟩)⟩)
            · refine at_xone (#[true, true, true, true, false, false, false]) (by kernel_rfl) rfl rfl ?_
              obtain ⟨h440, H⟩ := ite_some H
              obtain ⟨i_, hi_, hz_, hs_, hb_⟩ := info25
              refine eff_append (K := k_impl_Key) (xs := ([] : List T_impl_Key)) (ys := x129) 0 rfl rfl rfl rfl rfl und23 und23 hi_ hz_ hs_ rfl rfl rfl ho439 rfl (fun w hs => ho133.rowAt (k := 3) hs rfl) (by rw [hb_]; omega) (by omega) (fun A441 c442 s443 ho444 => ?_)
              refine at_xS (fun w hs => cellsV (k := 2) hs rfl _ 0 (Nat.le_of_ble_eq_true (by kernel_rfl)) rfl) ?_
              refine at_x1 2 4 (#[true, true, true, true, true, false, false]) rfl (by kernel_rfl) (by kernel_rfl) rfl rfl ?_
              refine eff_buildSlice (e := 25) (cells := #[.int .i64 x433, str x434, str x435]) ([(⟨x433, x434, x435⟩ : T_impl_Key)] : List T_impl_Key).length rfl rfl rfl (by kernel_rfl) (fun g445 => ?_)
              have ho446 := own_lit (K := k_impl_Key) (e := 25) (I := I) (xs := ([(⟨x433, x434, x435⟩ : T_impl_Key)] : List T_impl_Key)) (css := [[.int .i64 x433, str x434, str x435]]) (cells := #[.int .i64 x433, str x434, str x435]) (b := g445) ⟨rfl, trivial⟩ rfl
              refine at_xS (fun w hs => cellsV (k := 3) hs rfl _ 0 (Nat.le_of_ble_eq_true (by kernel_rfl)) rfl) ?_
              refine at_x1 1 5 (#[true, true, true, true, true, true, false]) rfl (by kernel_rfl) (by kernel_rfl) rfl rfl ?_
              obtain ⟨h447, H⟩ := ite_some H
              obtain ⟨i_, hi_, hz_, hs_, hb_⟩ := info25
              refine eff_append (K := k_impl_Key) (xs := (([] : List T_impl_Key) ++ x129)) (ys := ([(⟨x433, x434, x435⟩ : T_impl_Key)] : List T_impl_Key)) 1 rfl rfl rfl rfl rfl und23 und23 hi_ hz_ hs_ rfl rfl rfl ho444 rfl (fun w hs => ho446.rowAt (k := 0) hs rfl) (by rw [hb_]; omega) (by omega) (fun A448 c449 s450 ho451 => ?_)
              refine at_xX (by kernel_rfl) ?_
              refine at_xseg [6] 0 (#[true, true, true, true, true, true, true]) rfl (by kernel_rfl) [] [0, 3] (L2 := [(0, .pointer (some ⟨g21, 0, none⟩)), (3, .slice A448 ((([] : List T_impl_Key) ++ x129) ++ ([(⟨x433, x434, x435⟩ : T_impl_Key)] : List T_impl_Key)).length c449)]) (obs := []) (by kernel_rfl) (by kernel_rfl) (by kernel_rfl) (.inl (by kernel_rfl)) (fun w hS => trivial) (fun w hs => trivial) ?_
              refine at_xend (by kernel_rfl) ?_
              refine at_thn ?_
              refine at_drop (k := 0) rfl rfl ?_
              refine at_drop (k := 2) rfl rfl ?_
              refine at_drop (k := 2) rfl rfl ?_
              refine at_perm ((perm_at (k := 1) rfl).trans ((List.Perm.refl _).cons _)) ?_
              refine at_keep [0, 3] (L2 := [(0, .pointer (some ⟨g21, 0, none⟩)), (3, .slice A448 ((([] : List T_impl_Key) ++ x129) ++ ([(⟨x433, x434, x435⟩ : T_impl_Key)] : List T_impl_Key)).length c449)]) rfl ?_
              exact Jn143 _ _ _ ⟨_, ((([] : List T_impl_Key) ++ x129) ++ ([(⟨x433, x434, x435⟩ : T_impl_Key)] : List T_impl_Key)), A448, c449, s450, x426, A427, c428, x430, x431, x432, rfl, rfl, H, hle, by omega, ho451, hr429⟩
            · refine at_xone (#[true, true, false, true, true, false, false]) (by kernel_rfl) rfl rfl ?_
              refine eff_buildSlice (e := 25) (cells := #[.int .i64 x433, str x434, str x435]) ([(⟨x433, x434, x435⟩ : T_impl_Key)] : List T_impl_Key).length rfl rfl rfl (by kernel_rfl) (fun g452 => ?_)
              have ho453 := own_lit (K := k_impl_Key) (e := 25) (I := I) (xs := ([(⟨x433, x434, x435⟩ : T_impl_Key)] : List T_impl_Key)) (css := [[.int .i64 x433, str x434, str x435]]) (cells := #[.int .i64 x433, str x434, str x435]) (b := g452) ⟨rfl, trivial⟩ rfl
              refine at_xS (fun w hs => cellsV (k := 3) hs rfl _ 0 (Nat.le_of_ble_eq_true (by kernel_rfl)) rfl) ?_
              refine at_x1 2 2 (#[true, true, true, true, true, false, false]) rfl (by kernel_rfl) (by kernel_rfl) rfl rfl ?_
              obtain ⟨h454, H⟩ := ite_some H
              obtain ⟨i_, hi_, hz_, hs_, hb_⟩ := info25
              refine eff_append (K := k_impl_Key) (xs := ([] : List T_impl_Key)) (ys := x129) 1 rfl rfl rfl rfl rfl und23 und23 hi_ hz_ hs_ rfl rfl rfl ho439 rfl (fun w hs => ho133.rowAt (k := 4) hs rfl) (by rw [hb_]; omega) (by omega) (fun A455 c456 s457 ho458 => ?_)
              refine at_xS (fun w hs => cellsV (k := 3) hs rfl _ 0 (Nat.le_of_ble_eq_true (by kernel_rfl)) rfl) ?_
              refine at_x1 1 5 (#[true, true, true, true, true, true, false]) rfl (by kernel_rfl) (by kernel_rfl) rfl rfl ?_
              obtain ⟨h459, H⟩ := ite_some H
              obtain ⟨i_, hi_, hz_, hs_, hb_⟩ := info25
              refine eff_append (K := k_impl_Key) (xs := (([] : List T_impl_Key) ++ x129)) (ys := ([(⟨x433, x434, x435⟩ : T_impl_Key)] : List T_impl_Key)) 1 rfl rfl rfl rfl rfl und23 und23 hi_ hz_ hs_ rfl rfl rfl ho458 rfl (fun w hs => ho453.rowAt (k := 0) hs rfl) (by rw [hb_]; omega) (by omega) (fun A460 c461 s462 ho463 => ?_)
              refine at_xX (by kernel_rfl) ?_
              refine at_xseg [6] 0 (#[true, true, true, true, true, true, true]) rfl (by kernel_rfl) [] [0, 3] (L2 := [(0, .pointer (some ⟨g21, 0, none⟩)), (3, .slice A460 ((([] : List T_impl_Key) ++ x129) ++ ([(⟨x433, x434, x435⟩ : T_impl_Key)] : List T_impl_Key)).length c461)]) (obs := []) (by kernel_rfl) (by kernel_rfl) (by kernel_rfl) (.inl (by kernel_rfl)) (fun w hS => trivial) (fun w hs => trivial) ?_
              refine at_xend (by kernel_rfl) ?_
              refine at_thn ?_
              refine at_drop (k := 0) rfl rfl ?_
              refine at_drop (k := 2) rfl rfl ?_
              refine at_drop (k := 2) rfl rfl ?_
              refine at_perm ((perm_at (k := 1) rfl).trans ((List.Perm.refl _).cons _)) ?_
              refine at_keep [0, 3] (L2 := [(0, .pointer (some ⟨g21, 0, none⟩)), (3, .slice A460 ((([] : List T_impl_Key) ++ x129) ++ ([(⟨x433, x434, x435⟩ : T_impl_Key)] : List T_impl_Key)).length c461)]) rfl ?_
              exact Jn143 _ _ _ ⟨_, ((([] : List T_impl_Key) ++ x129) ++ ([(⟨x433, x434, x435⟩ : T_impl_Key)] : List T_impl_Key)), A460, c461, s462, x426, A427, c428, x430, x431, x432, rfl, rfl, H, hle, by omega, ho463, hr429⟩
          · refine at_xone (#[false, true, false, true, true, false, false]) (by kernel_rfl) rfl rfl ?_
            refine eff_buildSlice (e := 25) (cells := #[.int .i64 x433, str x434, str x435]) ([(⟨x433, x434, x435⟩ : T_impl_Key)] : List T_impl_Key).length rfl rfl rfl (by kernel_rfl) (fun g464 => ?_)
            have ho465 := own_lit (K := k_impl_Key) (e := 25) (I := I) (xs := ([(⟨x433, x434, x435⟩ : T_impl_Key)] : List T_impl_Key)) (css := [[.int .i64 x433, str x434, str x435]]) (cells := #[.int .i64 x433, str x434, str x435]) (b := g464) ⟨rfl, trivial⟩ rfl
            refine at_xS (fun w hs => cellsV (k := 2) hs rfl _ 0 (Nat.le_of_ble_eq_true (by kernel_rfl)) rfl) ?_
            refine at_x1 3 0 (#[true, true, false, true, true, false, false]) rfl (by kernel_rfl) (by kernel_rfl) rfl rfl ?_
            refine eff_buildSlice (e := 25) (cells := #[]) ([] : List T_impl_Key).length rfl rfl rfl (by kernel_rfl) (fun g466 => ?_)
            have ho467 := own_lit (K := k_impl_Key) (e := 25) (I := I) (xs := ([] : List T_impl_Key)) (css := []) (cells := #[]) (b := g466) trivial rfl
            refine at_xS (fun w hs => cellsV (k := 3) hs rfl _ 0 (Nat.le_of_ble_eq_true (by kernel_rfl)) rfl) ?_
            refine at_x1 2 2 (#[true, true, true, true, true, false, false]) rfl (by kernel_rfl) (by kernel_rfl) rfl rfl ?_
            obtain ⟨h468, H⟩ := ite_some H
            obtain ⟨i_, hi_, hz_, hs_, hb_⟩ := info25
            refine eff_append (K := k_impl_Key) (xs := ([] : List T_impl_Key)) (ys := x129) 0 rfl rfl rfl rfl rfl und23 und23 hi_ hz_ hs_ rfl rfl rfl ho467 rfl (fun w hs => ho133.rowAt (k := 4) hs rfl) (by rw [hb_]; omega) (by omega) (fun A469 c470 s471 ho472 => ?_)
            refine at_xS (fun w hs => cellsV (k := 3) hs rfl _ 0 (Nat.le_of_ble_eq_true (by kernel_rfl)) rfl) ?_
            refine at_x1 1 5 (#[true, true, true, true, true, true, false]) rfl (by kernel_rfl) (by kernel_rfl) rfl rfl ?_
            obtain ⟨h473, H⟩ := ite_some H
            obtain ⟨i_, hi_, hz_, hs_, hb_⟩ := info25
            refine eff_append (K := k_impl_Key) (xs := (([] : List T_impl_Key) ++ x129)) (ys := ([(⟨x433, x434, x435⟩ : T_impl_Key)] : List T_impl_Key)) 0 rfl rfl rfl rfl rfl und23 und23 hi_ hz_ hs_ rfl rfl rfl ho472 rfl (fun w hs => ho465.rowAt (k := 1) hs rfl) (by rw [hb_]; omega) (by omega) (fun A474 c475 s476 ho477 => ?_)
            refine at_xX (by kernel_rfl) ?_
            refine at_xseg [6] 0 (#[true, true, true, true, true, true, true]) rfl (by kernel_rfl) [] [0, 3] (L2 := [(0, .pointer (some ⟨g21, 0, none⟩)), (3, .slice A474 ((([] : List T_impl_Key) ++ x129) ++ ([(⟨x433, x434, x435⟩ : T_impl_Key)] : List T_impl_Key)).length c475)]) (obs := []) (by kernel_rfl) (by kernel_rfl) (by kernel_rfl) (.inl (by kernel_rfl)) (fun w hS => trivial) (fun w hs => trivial) ?_
            refine at_xend (by kernel_rfl) ?_
            refine at_thn ?_
            refine at_drop (k := 1) rfl rfl ?_
            refine at_drop (k := 2) rfl rfl ?_
            refine at_drop (k := 2) rfl rfl ?_
            refine at_perm ((perm_at (k := 1) rfl).trans ((List.Perm.refl _).cons _)) ?_
            refine at_keep [0, 3] (L2 := [(0, .pointer (some ⟨g21, 0, none⟩)), (3, .slice A474 ((([] : List T_impl_Key) ++ x129) ++ ([(⟨x433, x434, x435⟩ : T_impl_Key)] : List T_impl_Key)).length c475)]) rfl ?_
            exact Jn143 _ _ _ ⟨_, ((([] : List T_impl_Key) ++ x129) ++ ([(⟨x433, x434, x435⟩ : T_impl_Key)] : List T_impl_Key)), A474, c475, s476, x426, A427, c428, x430, x431, x432, rfl, rfl, H, hle, by omega, ho477, hr429⟩
        · intro Jn325
          refine at_seq ?_
          refine at_ops [0, 1] rfl ?_
          refine at_seg [0] [1] rfl [] [0, 3, 5, 27] (L2 := [(0, .pointer (some ⟨g21, 0, none⟩)), (3, .slice A130 x129.length c131), (5, .pointer (some ⟨g324, 0, none⟩)), (27, .pointer (some ⟨g21, 0, none⟩))]) (obs := []) (by kernel_rfl) ?_ ?_
          · intro w hs; exact trivial
          refine at_eff rfl rfl ?_
          obtain ⟨b6, H478, H⟩ := bind_some H
          refine eff_call rfl rfl ok26 rfl rfl (show Meets Try.prog 26 ([.pointer (some ⟨g21, 0, none⟩), .int .i64 4] : List Value).toArray _ [[(g21, .cells #[.slice A321 b5.2.b.length c322, .int .i64 b5.2.at_, .int .u64 b5.2.mix, .int .i64 b5.2.size] 53 (0, 0))]] _ from spec_l01Src_n.calls H478 hr323) (Mr := ([(g324, .cells #[.int .i64 b5.1.Map, str b5.1.Keys, str b5.1.Name] 25 (0, 0))] :: s132 :: Fs)) ((perm_at (k := 1) rfl).trans ((List.Perm.refl _).cons _)) (fun v479 J480 M481 hq482 hJ483 => ?_)
          replace hle := hle.trans hJ483
          replace ho133 := ho133.mono hJ483
          replace hr323 := hr323.mono hJ483
          obtain ⟨A484, c485, rfl, rfl, hr486⟩ := hq482
          refine at_end ?_
          refine at_thn ?_
          refine at_block ?_
          refine at_seq ?_
          refine at_reg [] [0, 3, 5, 28, 29] (L2 := [(0, .pointer (some ⟨g21, 0, none⟩)), (3, .slice A130 x129.length c131), (5, .pointer (some ⟨g324, 0, none⟩)), (28, .int .i64 b6.1), (29, .bool (b6.1 == 0))]) (obs := []) (by kernel_rfl) ?_ ?_
          · intro w hs; exact trivial
          refine at_thn ?_
          by_cases h487 : b6.1 = 0
          · rw [if_pos h487] at H
            refine at_cond_t rfl (beq_iff_eq.2 h487) ?_
            refine at_ops [0, 1, 2, 3, 4] rfl ?_
            refine at_seg [0] [1, 2, 3, 4] rfl [] [0, 3, 5, 31] (L2 := [(0, .pointer (some ⟨g21, 0, none⟩)), (3, .slice A130 x129.length c131), (5, .pointer (some ⟨g324, 0, none⟩)), (31, .pointer (some ⟨g21, 0, none⟩))]) (obs := []) (by kernel_rfl) ?_ ?_
            · intro w hs; exact trivial
            refine at_eff rfl rfl ?_
            obtain ⟨b7, H488, H⟩ := bind_some H
            refine eff_call rfl rfl ok26 rfl rfl (show Meets Try.prog 26 ([.pointer (some ⟨g21, 0, none⟩), .int .i64 2] : List Value).toArray _ [[(g21, .cells #[.slice A484 b6.2.b.length c485, .int .i64 b6.2.at_, .int .u64 b6.2.mix, .int .i64 b6.2.size] 53 (0, 0))]] _ from spec_l01Src_n.calls H488 hr486) (Mr := ([(g324, .cells #[.int .i64 b5.1.Map, str b5.1.Keys, str b5.1.Name] 25 (0, 0))] :: s132 :: Fs)) (List.Perm.refl _) (fun v489 J490 M491 hq492 hJ493 => ?_)
            replace hle := hle.trans hJ493
            replace ho133 := ho133.mono hJ493
            replace hr486 := hr486.mono hJ493
            obtain ⟨A494, c495, rfl, rfl, hr496⟩ := hq492
            refine at_seg [2, 3] [4] rfl [] [0, 3, 5, 33, 34] (L2 := [(0, .pointer (some ⟨g21, 0, none⟩)), (3, .slice A130 x129.length c131), (5, .pointer (some ⟨g324, 0, none⟩)), (33, .int .i64 (IntKind.i64.wrap (10 * b7.1))), (34, .pointer (some ⟨g324, 0, none⟩))]) (obs := []) (by kernel_rfl) ?_ ?_
            · intro w hs; exact trivial
            refine at_eff rfl rfl ?_
            refine eff_store 1 rfl rfl rfl rfl rfl rfl (.inl (Nat.le_refl _)) rfl (Nat.le_of_ble_eq_true (by kernel_rfl)) rfl ?_
            refine at_end ?_
            refine at_in_norm ?_
            refine at_thn ?_
            refine at_keep [0, 3, 5] (L2 := [(0, .pointer (some ⟨g21, 0, none⟩)), (3, .slice A130 x129.length c131), (5, .pointer (some ⟨g324, 0, none⟩))]) rfl ?_
            exact Jn325 _ _ _ ⟨_, b7.2.b, A494, c495, b7.2.at_, b7.2.mix, b7.2.size, IntKind.i64.wrap (10 * b7.1), b5.1.Keys, b5.1.Name, rfl, rfl, H, hle, by omega, ho133, hr496⟩
          · rw [if_neg h487] at H
            refine at_cond_f rfl (beq_eq_false_iff_ne.2 h487) ?_
            refine at_seq ?_
            refine at_reg [] [0, 3, 5, 28, 35] (L2 := [(0, .pointer (some ⟨g21, 0, none⟩)), (3, .slice A130 x129.length c131), (5, .pointer (some ⟨g324, 0, none⟩)), (28, .int .i64 b6.1), (35, .bool (b6.1 == 1))]) (obs := []) (by kernel_rfl) ?_ ?_
            · intro w hs; exact trivial
            refine at_thn ?_
            by_cases h497 : b6.1 = 1
            · rw [if_pos h497] at H
              refine at_cond_t rfl (beq_iff_eq.2 h497) ?_
              refine at_ops [0, 1, 2, 3, 4, 5, 6] rfl ?_
              refine at_seg [0, 1] [2, 3, 4, 5, 6] rfl [] [0, 3, 5, 37, 38] (L2 := [(0, .pointer (some ⟨g21, 0, none⟩)), (3, .slice A130 x129.length c131), (5, .pointer (some ⟨g324, 0, none⟩)), (37, .pointer (some ⟨g21, 0, none⟩)), (38, .pointer (some ⟨g21, 0, none⟩))]) (obs := []) (by kernel_rfl) ?_ ?_
              · intro w hs; exact trivial
              refine at_eff rfl rfl ?_
              obtain ⟨b8, H498, H⟩ := bind_some H
              refine eff_call rfl rfl ok26 rfl rfl (show Meets Try.prog 26 ([.pointer (some ⟨g21, 0, none⟩), .int .i64 2] : List Value).toArray _ [[(g21, .cells #[.slice A484 b6.2.b.length c485, .int .i64 b6.2.at_, .int .u64 b6.2.mix, .int .i64 b6.2.size] 53 (0, 0))]] _ from spec_l01Src_n.calls H498 hr486) (Mr := ([(g324, .cells #[.int .i64 b5.1.Map, str b5.1.Keys, str b5.1.Name] 25 (0, 0))] :: s132 :: Fs)) (List.Perm.refl _) (fun v499 J500 M501 hq502 hJ503 => ?_)
              replace hle := hle.trans hJ503
              replace ho133 := ho133.mono hJ503
              replace hr486 := hr486.mono hJ503
              obtain ⟨A504, c505, rfl, rfl, hr506⟩ := hq502
              refine at_seg [3] [4, 5, 6] rfl [] [0, 3, 5, 37, 40] (L2 := [(0, .pointer (some ⟨g21, 0, none⟩)), (3, .slice A130 x129.length c131), (5, .pointer (some ⟨g324, 0, none⟩)), (37, .pointer (some ⟨g21, 0, none⟩)), (40, .int .i64 (IntKind.i64.wrap (7 * b8.1)))]) (obs := []) (by kernel_rfl) ?_ ?_
              · intro w hs; exact trivial
              refine at_eff rfl rfl ?_
              obtain ⟨b9, H507, H⟩ := bind_some H
              refine eff_call rfl rfl ok28 rfl rfl (show Meets Try.prog 28 ([.pointer (some ⟨g21, 0, none⟩), .int .i64 (IntKind.i64.wrap (7 * b8.1))] : List Value).toArray _ [[(g21, .cells #[.slice A504 b8.2.b.length c505, .int .i64 b8.2.at_, .int .u64 b8.2.mix, .int .i64 b8.2.size] 53 (0, 0))]] _ from spec_l01Src_l07Bytes.calls H507 hr506) (Mr := ([(g324, .cells #[.int .i64 b5.1.Map, str b5.1.Keys, str b5.1.Name] 25 (0, 0))] :: s132 :: Fs)) (List.Perm.refl _) (fun v508 J509 M510 hq511 hJ512 => ?_)
              replace hle := hle.trans hJ512
              replace ho133 := ho133.mono hJ512
              replace hr506 := hr506.mono hJ512
              obtain ⟨A513, c514, rfl, rfl, hr515⟩ := hq511
              refine at_seg [5] [6] rfl [] [0, 3, 5, 41, 42] (L2 := [(0, .pointer (some ⟨g21, 0, none⟩)), (3, .slice A130 x129.length c131), (5, .pointer (some ⟨g324, 0, none⟩)), (41, str b9.1), (42, .pointer (some ⟨g324, 1, none⟩))]) (obs := []) (by kernel_rfl) ?_ ?_
              · intro w hs; exact trivial
              refine at_eff rfl rfl ?_
              refine eff_store 1 rfl rfl rfl rfl rfl rfl (.inl (Nat.le_refl _)) rfl (Nat.le_of_ble_eq_true (by kernel_rfl)) rfl ?_
              refine at_end ?_
              refine at_in_norm ?_
              refine at_thn ?_
              refine at_keep [0, 3, 5] (L2 := [(0, .pointer (some ⟨g21, 0, none⟩)), (3, .slice A130 x129.length c131), (5, .pointer (some ⟨g324, 0, none⟩))]) rfl ?_
              exact Jn325 _ _ _ ⟨_, b9.2.b, A513, c514, b9.2.at_, b9.2.mix, b9.2.size, b5.1.Map, b9.1, b5.1.Name, rfl, rfl, H, hle, by omega, ho133, hr515⟩
            · rw [if_neg h497] at H
              refine at_cond_f rfl (beq_eq_false_iff_ne.2 h497) ?_
              refine at_seq ?_
              refine at_reg [] [0, 3, 5, 43] (L2 := [(0, .pointer (some ⟨g21, 0, none⟩)), (3, .slice A130 x129.length c131), (5, .pointer (some ⟨g324, 0, none⟩)), (43, .bool (b6.1 == 2))]) (obs := []) (by kernel_rfl) ?_ ?_
              · intro w hs; exact trivial
              refine at_thn ?_
              by_cases h516 : b6.1 = 2
              · rw [if_pos h516] at H
                refine at_cond_t rfl (beq_iff_eq.2 h516) ?_
                refine at_ops [0, 1, 2, 3, 4] rfl ?_
                refine at_seg [0] [1, 2, 3, 4] rfl [] [0, 3, 5, 45] (L2 := [(0, .pointer (some ⟨g21, 0, none⟩)), (3, .slice A130 x129.length c131), (5, .pointer (some ⟨g324, 0, none⟩)), (45, .pointer (some ⟨g21, 0, none⟩))]) (obs := []) (by kernel_rfl) ?_ ?_
                · intro w hs; exact trivial
                refine at_eff rfl rfl ?_
                refine eff_buildSlice (e := 9) (cells := #[str ([] : List UInt8), str ([65] : List UInt8), str ([97, 98, 99, 100, 101, 102, 103, 104, 105, 106, 107, 108, 109, 110, 111, 112, 113, 114, 115, 116, 117] : List UInt8)]) ([([] : List UInt8), ([65] : List UInt8), ([97, 98, 99, 100, 101, 102, 103, 104, 105, 106, 107, 108, 109, 110, 111, 112, 113, 114, 115, 116, 117] : List UInt8)] : List (List UInt8)).length rfl rfl rfl (by kernel_rfl) (fun g517 => ?_)
                have ho518 := own_lit (K := Kd.string) (e := 9) (I := J480) (xs := ([([] : List UInt8), ([65] : List UInt8), ([97, 98, 99, 100, 101, 102, 103, 104, 105, 106, 107, 108, 109, 110, 111, 112, 113, 114, 115, 116, 117] : List UInt8)] : List (List UInt8))) (css := [[str ([] : List UInt8)], [str ([65] : List UInt8)], [str ([97, 98, 99, 100, 101, 102, 103, 104, 105, 106, 107, 108, 109, 110, 111, 112, 113, 114, 115, 116, 117] : List UInt8)]]) (cells := #[str ([] : List UInt8), str ([65] : List UInt8), str ([97, 98, 99, 100, 101, 102, 103, 104, 105, 106, 107, 108, 109, 110, 111, 112, 113, 114, 115, 116, 117] : List UInt8)]) (b := g517) ⟨rfl, ⟨rfl, ⟨rfl, trivial⟩⟩⟩ rfl
                refine at_eff rfl rfl ?_
                refine at_freeze (k := 0) rfl rfl (fun J519 hJ520 hin521 => ?_)
                replace hle := hle.trans hJ520
                replace ho133 := ho133.mono hJ520
                replace ho518 := ho518.mono hJ520
                replace hr486 := hr486.mono hJ520
                have hr522 := ho518.rd (ImmLe.refl _) hin521
                obtain ⟨b10, H523, H⟩ := bind_some H
                refine eff_call rfl rfl ok29 rfl rfl (show Meets Try.prog 29 ([.pointer (some ⟨g21, 0, none⟩), .slice (some ⟨g517, 0, none⟩ : Option Addr) ([([] : List UInt8), ([65] : List UInt8), ([97, 98, 99, 100, 101, 102, 103, 104, 105, 106, 107, 108, 109, 110, 111, 112, 113, 114, 115, 116, 117] : List UInt8)] : List (List UInt8)).length (([([] : List UInt8), ([65] : List UInt8), ([97, 98, 99, 100, 101, 102, 103, 104, 105, 106, 107, 108, 109, 110, 111, 112, 113, 114, 115, 116, 117] : List UInt8)] : List (List UInt8)).length)] : List Value).toArray _ [[(g21, .cells #[.slice A484 b6.2.b.length c485, .int .i64 b6.2.at_, .int .u64 b6.2.mix, .int .i64 b6.2.size] 53 (0, 0))]] _ from spec_l01Src_pick.calls H523 hr486 hr522) (Mr := ([(g324, .cells #[.int .i64 b5.1.Map, str b5.1.Keys, str b5.1.Name] 25 (0, 0))] :: s132 :: Fs)) (List.Perm.refl _) (fun v524 J525 M526 hq527 hJ528 => ?_)
                replace hle := hle.trans hJ528
                replace ho133 := ho133.mono hJ528
                replace hr486 := hr486.mono hJ528
                replace hr522 := hr522.mono hJ528
                obtain ⟨A529, c530, rfl, rfl, hr531⟩ := hq527
                refine at_seg [3] [4] rfl [] [0, 3, 5, 47, 48] (L2 := [(0, .pointer (some ⟨g21, 0, none⟩)), (3, .slice A130 x129.length c131), (5, .pointer (some ⟨g324, 0, none⟩)), (47, str b10.1), (48, .pointer (some ⟨g324, 2, none⟩))]) (obs := []) (by kernel_rfl) ?_ ?_
                · intro w hs; exact trivial
                refine at_eff rfl rfl ?_
                refine eff_store 1 rfl rfl rfl rfl rfl rfl (.inl (Nat.le_refl _)) rfl (Nat.le_of_ble_eq_true (by kernel_rfl)) rfl ?_
                refine at_end ?_
                refine at_in_norm ?_
                refine at_thn ?_
                refine at_keep [0, 3, 5] (L2 := [(0, .pointer (some ⟨g21, 0, none⟩)), (3, .slice A130 x129.length c131), (5, .pointer (some ⟨g324, 0, none⟩))]) rfl ?_
                exact Jn325 _ _ _ ⟨_, b10.2.b, A529, c530, b10.2.at_, b10.2.mix, b10.2.size, b5.1.Map, b5.1.Keys, b10.1, rfl, rfl, H, hle, by omega, ho133, hr531⟩
              · rw [if_neg h516] at H
                refine at_cond_f rfl (beq_eq_false_iff_ne.2 h516) ?_
                refine at_skip ?_
                refine at_in_norm ?_
                refine at_thn ?_
                refine at_keep [0, 3, 5] (L2 := [(0, .pointer (some ⟨g21, 0, none⟩)), (3, .slice A130 x129.length c131), (5, .pointer (some ⟨g324, 0, none⟩))]) rfl ?_
                exact Jn325 _ _ _ ⟨_, b6.2.b, A484, c485, b6.2.at_, b6.2.mix, b6.2.size, b5.1.Map, b5.1.Keys, b5.1.Name, rfl, rfl, H, hle, by omega, ho133, hr486⟩
      · rw [if_neg h314] at H
        refine at_cond_f rfl (ff_of h314) ?_
        refine at_skip ?_
        refine at_thn ?_
        refine at_keep [0, 3] (L2 := [(0, .pointer (some ⟨g21, 0, none⟩)), (3, .slice A130 x129.length c131)]) rfl ?_
        exact Jn143 _ _ _ ⟨_, x129, A130, c131, s132, b4.2.b, A311, c312, b4.2.at_, b4.2.mix, b4.2.size, rfl, rfl, H, hle, by omega, ho133, hr313⟩
  · intro Jn28
    refine at_seq ?_
    refine at_ops [0, 1, 2, 3, 4, 5, 6, 7] rfl ?_
    refine at_seg [0, 1, 2, 3, 4, 5] [6, 7] rfl [(4, .int .i64 p22.size)] [0, 3, 8, 13] (L2 := [(0, .pointer (some ⟨g21, 0, none⟩)), (3, .slice (some ⟨g26, 0, none⟩ : Option Addr) ([] : List T_impl_Key).length (([] : List T_impl_Key).length)), (8, .pointer (some ⟨g21, 0, none⟩)), (13, .int .i64 (IntKind.i64.wrap (8 + p22.size)))]) (obs := [fun w => w.cell? ⟨g21, 3, none⟩ = some (.int .i64 p22.size)]) (by kernel_rfl) ?_ ?_
    · intro w hs; exact hs.var (k := 1) rfl 3 rfl
    refine at_eff rfl rfl ?_
    obtain ⟨b11, H532, H⟩ := bind_some H
    refine eff_call rfl rfl ok26 rfl rfl (show Meets Try.prog 26 ([.pointer (some ⟨g21, 0, none⟩), .int .i64 (IntKind.i64.wrap (8 + p22.size))] : List Value).toArray _ [[(g21, .cells #[.slice A23 p22.b.length c24, .int .i64 p22.at_, .int .u64 p22.mix, .int .i64 p22.size] 53 (0, 0))]] _ from spec_l01Src_n.calls H532 hr25) (Mr := ([(g26, .cells #[] 25 (0, 0))] :: Fs)) ((perm_at (k := 1) rfl).trans ((List.Perm.refl _).cons _)) (fun v533 J534 M535 hq536 hJ537 => ?_)
    replace hle := hle.trans hJ537
    replace ho27 := ho27.mono hJ537
    replace hr25 := hr25.mono hJ537
    obtain ⟨A538, c539, rfl, rfl, hr540⟩ := hq536
    refine at_seg [7] [] rfl [] [0, 3, 4] (L2 := [(0, .pointer (some ⟨g21, 0, none⟩)), (3, .slice (some ⟨g26, 0, none⟩ : Option Addr) ([] : List T_impl_Key).length (([] : List T_impl_Key).length)), (4, .int .i64 b11.1)]) (obs := []) (by kernel_rfl) ?_ ?_
    · intro w hs; exact trivial
    refine at_end ?_
    refine at_thn ?_
    refine at_block ?_
    refine at_keep [0, 3, 4] (L2 := [(0, .pointer (some ⟨g21, 0, none⟩)), (3, .slice (some ⟨g26, 0, none⟩ : Option Addr) ([] : List T_impl_Key).length (([] : List T_impl_Key).length)), (4, .int .i64 b11.1)]) rfl ?_
    refine at_loop (fun k554 L I Ms => ∃ (x541 : List T_impl_Key) (A542 : Option Addr) (c543 : Nat) (s544 : Seg) (x546 : Int) (x547 : List Int) (A548 : Option Addr) (c549 : Nat) (x551 : Int) (x552 : Int) (x553 : Int), L = [(0, .pointer (some ⟨g21, 0, none⟩)), (3, .slice A542 x541.length c543), (4, .int .i64 x546)] ∧ Ms = ([(g21, .cells #[.slice A548 x547.length c549, .int .i64 x551, .int .u64 x552, .int .i64 x553] 53 (0, 0))] :: s544 :: Fs) ∧ spec_l01Src_l07Keys_l1 k554 x541 x546 x547 x551 x552 x553 = some r ∧ ImmLe I0 I ∧ k554 ≤ k ∧ Own k_impl_Key 25 I A542 c543 x541 s544 ∧ Rd (Kd.int .u8) I A548 c549 x547) ?_ ?_ k ⟨([] : List T_impl_Key), (some ⟨g26, 0, none⟩ : Option Addr), ([] : List T_impl_Key).length, [(g26, .cells #[] 25 (0, 0))], b11.1, b11.2.b, A538, c539, b11.2.at_, b11.2.mix, b11.2.size, rfl, rfl, H, hle, Nat.le_refl _, ho27, hr540⟩
    · rintro L I Ms ⟨_, _, _, _, _, _, _, _, _, _, _, rfl, rfl, H, _⟩; exact no_none H
    · clear H hle ho27 hr540
      intro k554 ih555 L I Ms h_; obtain ⟨x541, A542, c543, s544, x546, x547, A548, c549, x551, x552, x553, hL_, hM_, H, hle, hk556, ho545, hr550⟩ := h_; rw [hL_, hM_]; clear hL_ hM_ L Ms
      rw [spec_l01Src_l07Keys_l1] at H
      refine at_seq ?_
      refine at_seq ?_
      refine at_reg [] [0, 3, 4, 16] (L2 := [(0, .pointer (some ⟨g21, 0, none⟩)), (3, .slice A542 x541.length c543), (4, .int .i64 x546), (16, .bool (decide (x546 > 0)))]) (obs := []) (by kernel_rfl) ?_ ?_
      · intro w hs; exact trivial
      refine at_thn ?_
      by_cases h557 : x546 > 0
      · rw [if_pos h557] at H
        refine at_cond_t rfl (decide_eq_true h557) ?_
        refine at_skip ?_
        refine at_thn ?_
        refine at_seq ?_
        refine at_block ?_
        refine at_ops [0, 1, 2, 3, 4] rfl ?_
        refine at_seg [0, 1] [2, 3, 4] rfl [] [0, 3, 4, 19, 20] (L2 := [(0, .pointer (some ⟨g21, 0, none⟩)), (3, .slice A542 x541.length c543), (4, .int .i64 x546), (19, .slice A542 x541.length c543), (20, .pointer (some ⟨g21, 0, none⟩))]) (obs := []) (by kernel_rfl) ?_ ?_
        · intro w hs; exact trivial
        refine at_eff rfl rfl ?_
        obtain ⟨b12, H558, H⟩ := bind_some H
        refine eff_call rfl rfl ok13 rfl rfl (show Meets Try.prog 13 ([.pointer (some ⟨g21, 0, none⟩)] : List Value).toArray _ [[(g21, .cells #[.slice A548 x547.length c549, .int .i64 x551, .int .u64 x552, .int .i64 x553] 53 (0, 0))]] _ from spec_l01Src_l07Key.calls H558 hr550) (Mr := (s544 :: Fs)) (List.Perm.refl _) (fun v559 J560 M561 hq562 hJ563 => ?_)
        replace hle := hle.trans hJ563
        replace ho545 := ho545.mono hJ563
        replace hr550 := hr550.mono hJ563
        obtain ⟨A564, c565, rfl, rfl, hr566⟩ := hq562
        refine at_eff rfl rfl ?_
        refine at_freeze (k := 1) rfl rfl (fun J567 hJ568 hin569 => ?_)
        replace hle := hle.trans hJ568
        replace ho545 := ho545.mono hJ568
        replace hr566 := hr566.mono hJ568
        have hr570 := ho545.rd (ImmLe.refl _) hin569
        obtain ⟨b13, H571, H⟩ := bind_some H
        have hm_ := spec_KeyBind.calls (I0 := J567) H571 hr570
        refine eff_call rfl rfl ok5 rfl rfl (show Meets Try.prog 5 ([.slice A542 x541.length c543, .agg #[.int .i64 b12.1.Map, str b12.1.Keys, str b12.1.Name]] : List Value).toArray _ [] _ from hm_) (Mr := ([(g21, .cells #[.slice A564 b12.2.b.length c565, .int .i64 b12.2.at_, .int .u64 b12.2.mix, .int .i64 b12.2.size] 53 (0, 0))] :: Fs)) (List.Perm.refl _) (fun v572 J573 M574 hq575 hJ576 => ?_)
        replace hle := hle.trans hJ576
        replace hr566 := hr566.mono hJ576
        replace hr570 := hr570.mono hJ576
        obtain ⟨A577, c578, s579, rfl, rfl, ho580⟩ := hq575
        refine at_seg [4] [] rfl [] [0, 3, 4] (L2 := [(0, .pointer (some ⟨g21, 0, none⟩)), (3, .slice A577 b13.length c578), (4, .int .i64 x546)]) (obs := []) (by kernel_rfl) ?_ ?_
        · intro w hs; exact trivial
        refine at_end ?_
        refine at_in_norm ?_
        refine at_thn ?_
        refine at_reg [] [0, 3, 4] (L2 := [(0, .pointer (some ⟨g21, 0, none⟩)), (3, .slice A577 b13.length c578), (4, .int .i64 (IntKind.i64.wrap (x546 - 1)))]) (obs := []) (by kernel_rfl) ?_ ?_
        · intro w hs; exact trivial
        refine at_thn ?_
        refine at_perm ((perm_at (k := 1) rfl).trans ((List.Perm.refl _).cons _)) ?_
        refine at_keep [0, 3, 4] (L2 := [(0, .pointer (some ⟨g21, 0, none⟩)), (3, .slice A577 b13.length c578), (4, .int .i64 (IntKind.i64.wrap (x546 - 1)))]) rfl ?_
        exact ih555 _ (by omega) _ _ _ ⟨b13, A577, c578, s579, IntKind.i64.wrap (x546 - 1), b12.2.b, A564, c565, b12.2.at_, b12.2.mix, b12.2.size, rfl, rfl, H, hle, by omega, ho580, hr566⟩
      · rw [if_neg h557] at H
        refine at_cond_f rfl (decide_eq_false h557) ?_
        refine at_exit ?_
        refine at_then_exit ?_
        refine at_then_exit ?_
        refine at_in_hit ?_
        refine at_thn ?_
        refine at_keep [0, 3] (L2 := [(0, .pointer (some ⟨g21, 0, none⟩)), (3, .slice A542 x541.length c543)]) rfl ?_
        exact Jn28 _ _ _ ⟨_, x541, A542, c543, s544, x547, A548, c549, x551, x552, x553, rfl, rfl, H, hle, by omega, ho545, hr550⟩

/-! ### loop.example/g00146/spec.DrawKeyBind: function 4 -/
def spec_DrawKeyBind (k : Nat) (p6 : List Int) : Option ((List T_impl_Key) × T_impl_Key) := (spec_l01Source k p6).bind fun b1 => ((spec_l01Src_l07Keys k b1).bind fun b2 => ((spec_l01Src_l07Key k b2.2).bind fun b3 => (some (b2.1, b3.1))))
set_option maxHeartbeats 4000000 in
set_option maxRecDepth 100000 in
theorem spec_DrawKeyBind.calls {k : Nat} {p6 : List Int} {r : (List T_impl_Key) × T_impl_Key} {I0 : Imm} {A7 : Option Addr} {c8 : Nat} (H : spec_DrawKeyBind k p6 = some r) (hr9 : Rd (Kd.int .u8) I0 A7 c8 p6) :
    Meets Try.prog 4 ([.slice A7 p6.length c8] : List Value).toArray I0 [] (fun v J M => ∃ (A_1 : Option Addr) (c_2 : Nat) (s_3 : Seg), v = .tuple #[.slice A_1 r.1.length c_2, .agg #[.int .i64 r.2.Map, str r.2.Keys, str r.2.Name]] ∧ M = [s_3] ∧ Own k_impl_Key 25 J A_1 c_2 r.1 s_3) := by
  have hle := ImmLe.refl I0
  unfold spec_DrawKeyBind at H
  refine fn_intro (fn := Try.f4) 13 Try.func4 rfl rfl rfl (fun E Fs => ?_)
  refine at_seq ?_
  refine at_ops [0, 1] rfl ?_
  refine at_seg [0] [1] rfl [] [0] (L2 := [(0, .slice A7 p6.length c8)]) (obs := []) (by kernel_rfl) ?_ ?_
  · intro w hs; exact trivial
  refine at_eff rfl rfl ?_
  obtain ⟨i_, hi_, hz_, _, _⟩ := info25
  refine eff_alloc rfl rfl hi_ hz_ #[.int .i64 0, str ([] : List UInt8), str ([] : List UInt8)] rfl (fun g10 => ?_)
  refine at_end ?_
  refine at_thn ?_
  refine at_seq ?_
  refine at_ops [0, 1, 2] rfl ?_
  refine at_seg [0] [1, 2] rfl [] [3, 6] (L2 := [(3, .pointer (some ⟨g10, 0, none⟩)), (6, .slice A7 p6.length c8)]) (obs := []) (by kernel_rfl) ?_ ?_
  · intro w hs; exact trivial
  refine at_eff rfl rfl ?_
  obtain ⟨b1, H11, H⟩ := bind_some H
  have hm_ := spec_l01Source.calls (I0 := I0) H11 hr9
  refine eff_call rfl rfl ok11 rfl rfl (show Meets Try.prog 11 ([.slice A7 p6.length c8] : List Value).toArray _ [] _ from hm_) (Mr := ([(g10, .cells #[.int .i64 0, str ([] : List UInt8), str ([] : List UInt8)] 25 (0, 0))] :: Fs)) (List.Perm.refl _) (fun v12 J13 M14 hq15 hJ16 => ?_)
  replace hle := hle.trans hJ16
  replace hr9 := hr9.mono hJ16
  obtain ⟨g17, A18, c19, rfl, rfl, hr20⟩ := hq15
  refine at_seg [2] [] rfl [] [3, 4] (L2 := [(3, .pointer (some ⟨g10, 0, none⟩)), (4, .pointer (some ⟨g17, 0, none⟩))]) (obs := []) (by kernel_rfl) ?_ ?_
  · intro w hs; exact trivial
  refine at_end ?_
  refine at_thn ?_
  refine at_seq ?_
  refine at_ops [0, 1, 2] rfl ?_
  refine at_seg [0] [1, 2] rfl [] [3, 4, 8] (L2 := [(3, .pointer (some ⟨g10, 0, none⟩)), (4, .pointer (some ⟨g17, 0, none⟩)), (8, .pointer (some ⟨g17, 0, none⟩))]) (obs := []) (by kernel_rfl) ?_ ?_
  · intro w hs; exact trivial
  refine at_eff rfl rfl ?_
  obtain ⟨b2, H21, H⟩ := bind_some H
  refine eff_call rfl rfl ok12 rfl rfl (show Meets Try.prog 12 ([.pointer (some ⟨g17, 0, none⟩)] : List Value).toArray _ [[(g17, .cells #[.slice A18 b1.b.length c19, .int .i64 b1.at_, .int .u64 b1.mix, .int .i64 b1.size] 53 (0, 0))]] _ from spec_l01Src_l07Keys.calls H21 hr20) (Mr := ([(g10, .cells #[.int .i64 0, str ([] : List UInt8), str ([] : List UInt8)] 25 (0, 0))] :: Fs)) (List.Perm.refl _) (fun v22 J23 M24 hq25 hJ26 => ?_)
  replace hle := hle.trans hJ26
  replace hr20 := hr20.mono hJ26
  obtain ⟨A27, c28, s29, A31, c32, rfl, rfl, ho30, hr33⟩ := hq25
  refine at_seg [2] [] rfl [] [3, 4, 5] (L2 := [(3, .pointer (some ⟨g10, 0, none⟩)), (4, .pointer (some ⟨g17, 0, none⟩)), (5, .slice A27 b2.1.length c28)]) (obs := []) (by kernel_rfl) ?_ ?_
  · intro w hs; exact trivial
  refine at_end ?_
  refine at_thn ?_
  refine at_seq ?_
  refine at_ops [0, 1, 2, 3, 4] rfl ?_
  refine at_seg [0, 1] [2, 3, 4] rfl [] [3, 10, 11] (L2 := [(3, .pointer (some ⟨g10, 0, none⟩)), (10, .slice A27 b2.1.length c28), (11, .pointer (some ⟨g17, 0, none⟩))]) (obs := []) (by kernel_rfl) ?_ ?_
  · intro w hs; exact trivial
  refine at_eff rfl rfl ?_
  obtain ⟨b3, H34, H⟩ := bind_some H
  refine eff_call rfl rfl ok13 rfl rfl (show Meets Try.prog 13 ([.pointer (some ⟨g17, 0, none⟩)] : List Value).toArray _ [[(g17, .cells #[.slice A31 b2.2.b.length c32, .int .i64 b2.2.at_, .int .u64 b2.2.mix, .int .i64 b2.2.size] 53 (0, 0))]] _ from spec_l01Src_l07Key.calls H34 hr33) (Mr := (s29 :: [(g10, .cells #[.int .i64 0, str ([] : List UInt8), str ([] : List UInt8)] 25 (0, 0))] :: Fs)) ((perm_at (k := 1) rfl).trans ((List.Perm.refl _).cons _)) (fun v35 J36 M37 hq38 hJ39 => ?_)
  replace hle := hle.trans hJ39
  replace ho30 := ho30.mono hJ39
  replace hr33 := hr33.mono hJ39
  obtain ⟨A40, c41, rfl, rfl, hr42⟩ := hq38
  refine at_seg [3] [4] rfl [] [2, 3, 12] (L2 := [(2, .slice A27 b2.1.length c28), (3, .pointer (some ⟨g10, 0, none⟩)), (12, .agg #[.int .i64 b3.1.Map, str b3.1.Keys, str b3.1.Name])]) (obs := []) (by kernel_rfl) ?_ ?_
  · intro w hs; exact trivial
  refine at_eff rfl rfl ?_
  refine eff_store 2 rfl rfl rfl rfl rfl rfl (.inl (Nat.le_refl _)) rfl (Nat.le_of_ble_eq_true (by kernel_rfl)) rfl ?_
  refine at_end ?_
  refine at_thn ?_
  refine at_ret ?_
  obtain rfl := Option.some.inj H
  refine at_drop (k := 0) rfl rfl ?_
  refine at_done (vs := [.slice A27 b2.1.length c28, .agg #[.int .i64 b3.1.Map, str b3.1.Keys, str b3.1.Name]]) (obs := [fun w => CellsAt w ⟨g10, 0, none⟩ [.int .i64 b3.1.Map, str b3.1.Keys, str b3.1.Name] 0]) (.inl rfl) [.tmp 2, .cell 3 25] [(3, .agg #[.int .i64 b3.1.Map, str b3.1.Keys, str b3.1.Name])] rfl (by kernel_rfl) (fun w hs => cellsV (k := 1) hs rfl _ 0 (Nat.le_of_ble_eq_true (by kernel_rfl)) rfl) (fun w hs => ⟨_, _, [s29], rfl, ⟨A27, c28, s29, rfl, rfl, ho30⟩, hle, (hs.tail (perm_at (k := 1) rfl))⟩)
end Go.Proofs.Ytloojlhlfhmoeaa
