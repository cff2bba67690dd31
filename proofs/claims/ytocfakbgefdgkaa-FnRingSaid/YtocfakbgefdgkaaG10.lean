import Derived.Test.YtocfakbgefdgkaaG9
namespace Go.Proofs.Ytocfakbgefdgkaa
open Go Eng
set_option linter.unusedVariables false
set_option linter.unusedSimpArgs false
/-! ### (*loop.example/g00146/spec.l01Src).l04Ring: function 53 -/
mutual
def spec_l01Src_l04Ring_j0 : Nat → Int → (List Int) → Int → Int → Int → Option (T_impl_Ring × T_spec_l01Src)
  | 0, _, _, _, _, _ => none
  | k + 1, x138, x139, x143, x144, x145 => spec_l01Src_l04Ring_l0 k x138 x139 x143 x144 x145 ([] : List (List Int))
def spec_l01Src_l04Ring_l0 : Nat → Int → (List Int) → Int → Int → Int → (List (List Int)) → Option (T_impl_Ring × T_spec_l01Src)
  | 0, _, _, _, _, _, _ => none
  | k + 1, x479, x480, x484, x485, x486, x487 => if x479 > 0 then ((spec_l01Src_n k (⟨x480, x484, x485, x486⟩ : T_spec_l01Src) 5).bind fun b9 => ((spec_l01Src_points k b9.2 (IntKind.i64.wrap (1 + b9.1))).bind fun b10 => (if x487.length + ([b10.1] : List (List Int)).length ≤ 5864062014805 then (spec_l01Src_l04Ring_l0 k (IntKind.i64.wrap (x479 - 1)) b10.2.b b10.2.at_ b10.2.mix b10.2.size (x487 ++ ([b10.1] : List (List Int)))) else none))) else (spec_l01Src_l04Ring_j1 k x480 x484 x485 x486 x487)
def spec_l01Src_l04Ring_j1 : Nat → (List Int) → Int → Int → Int → (List (List Int)) → Option (T_impl_Ring × T_spec_l01Src)
  | 0, _, _, _, _, _ => none
  | k + 1, x250, x254, x255, x256, x257 => if (x257.length : Int) > 0 then ((spec_l01Src_n k (⟨x250, x254, x255, x256⟩ : T_spec_l01Src) (x257.length : Int)).bind fun b8 => (spec_l01Src_l04Ring_j2 k b8.2.b b8.2.at_ b8.2.mix b8.2.size b8.1 x257)) else (spec_l01Src_l04Ring_j2 k x250 x254 x255 x256 0 x257)
def spec_l01Src_l04Ring_j2 : Nat → (List Int) → Int → Int → Int → Int → (List (List Int)) → Option (T_impl_Ring × T_spec_l01Src)
  | 0, _, _, _, _, _, _ => none
  | k + 1, x365, x369, x370, x371, x372, x257 => (spec_l01Src_one k (⟨x365, x369, x370, x371⟩ : T_spec_l01Src) 20).bind fun b3 => (if b3.1 = true then ((spec_l01Src_n k b3.2 3).bind fun b4 => (if b4.1 = 0 then ((spec_l01Src_n k b4.2 2).bind fun b5 => (if 0 ≤ b5.1 then (if b5.1 < (([(-1), (x257.length : Int)] : List Int).length : Int) then (some ((⟨x257, rdA 0 ([(-1), (x257.length : Int)] : List Int) b5.1⟩ : T_impl_Ring), b5.2)) else none) else none)) else (if b4.1 = 1 then (if x257.length + ([([] : List Int)] : List (List Int)).length ≤ 5864062014805 then (some ((⟨(x257 ++ ([([] : List Int)] : List (List Int))), x372⟩ : T_impl_Ring), b4.2)) else none) else ((spec_l01Src_n k b4.2 5).bind fun b6 => ((spec_l01Src_points k b6.2 (IntKind.i64.wrap (297 + b6.1))).bind fun b7 => (if x257.length + ([b7.1] : List (List Int)).length ≤ 5864062014805 then (some ((⟨(x257 ++ ([b7.1] : List (List Int))), x372⟩ : T_impl_Ring), b7.2)) else none)))))) else (some ((⟨x257, x372⟩ : T_impl_Ring), b3.2)))
end
def spec_l01Src_l04Ring (k : Nat) (p22 : T_spec_l01Src) : Option (T_impl_Ring × T_spec_l01Src) := (spec_l01Src_n k p22 4).bind fun b2 => ((spec_l01Src_one k b2.2 12).bind fun b11 => (if b11.1 = true then ((spec_l01Src_n k b11.2 3).bind fun b12 => (spec_l01Src_l04Ring_j0 k (IntKind.i64.wrap (9 + b12.1)) b12.2.b b12.2.at_ b12.2.mix b12.2.size)) else (spec_l01Src_l04Ring_j0 k b2.1 b11.2.b b11.2.at_ b11.2.mix b11.2.size)))
set_option maxHeartbeats 4000000 in
set_option maxRecDepth 100000 in
theorem spec_l01Src_l04Ring.calls {k : Nat} {p22 : T_spec_l01Src} {r : T_impl_Ring × T_spec_l01Src} {I0 : Imm} {g21 : Nat} {A23 : Option Addr} {c24 : Nat} (H : spec_l01Src_l04Ring k p22 = some r) (hr25 : Rd (Kd.int .u8) I0 A23 c24 p22.b) :
    Meets Try.prog 53 ([.pointer (some ⟨g21, 0, none⟩)] : List Value).toArray I0 [[(g21, .cells #[.slice A23 p22.b.length c24, .int .i64 p22.at_, .int .u64 p22.mix, .int .i64 p22.size] 82 (0, 0))]] (fun v J M => ∃ (A_1 : Option Addr) (c_2 : Nat) (s_3 : Seg) (A_4 : Option Addr) (c_5 : Nat), v = .agg #[.slice A_1 r.1.Items.length c_2, .int .i64 r.1.At] ∧ M = [s_3, [(g21, .cells #[.slice A_4 r.2.b.length c_5, .int .i64 r.2.at_, .int .u64 r.2.mix, .int .i64 r.2.size] 82 (0, 0))]] ∧ Own (Kd.slice (Kd.int .i64)) 23 J A_1 c_2 r.1.Items s_3 ∧ Rd (Kd.int .u8) J A_4 c_5 r.2.b) := by
  have hle := ImmLe.refl I0
  unfold spec_l01Src_l04Ring at H
  refine fn_intro (fn := Try.f53) 71 Try.func53 rfl rfl rfl (fun E Fs => ?_)
  refine at_seq ?_
  refine at_ops [0] rfl ?_
  refine at_eff rfl rfl ?_
  obtain ⟨i_, hi_, hz_, _, _⟩ := info38
  refine eff_alloc rfl rfl hi_ hz_ #[.slice none ([] : List (List Int)).length 0, .int .i64 0] rfl (fun g26 => ?_)
  refine at_end ?_
  refine at_thn ?_
  refine at_seq ?_
  refine at_ops [0, 1, 2] rfl ?_
  refine at_seg [0] [1, 2] rfl [] [0, 2, 5] (L2 := [(0, .pointer (some ⟨g21, 0, none⟩)), (2, .pointer (some ⟨g26, 0, none⟩)), (5, .agg #[.slice none ([] : List (List Int)).length 0, .int .i64 0])]) (obs := []) (by kernel_rfl) ?_ ?_
  · intro w hs; exact trivial
  refine at_eff rfl rfl ?_
  obtain ⟨i_, hi_, hz_, _, _⟩ := info38
  refine eff_alloc rfl rfl hi_ hz_ #[.slice none ([] : List (List Int)).length 0, .int .i64 0] rfl (fun g27 => ?_)
  refine at_eff rfl rfl ?_
  refine eff_store 0 rfl rfl rfl rfl rfl rfl (.inl (Nat.le_refl _)) rfl (Nat.le_of_ble_eq_true (by kernel_rfl)) rfl ?_
  refine at_end ?_
  refine at_thn ?_
  refine at_seq ?_
  refine at_ops [0, 1, 2] rfl ?_
  refine at_seg [0] [1, 2] rfl [] [0, 2, 3, 6] (L2 := [(0, .pointer (some ⟨g21, 0, none⟩)), (2, .pointer (some ⟨g26, 0, none⟩)), (3, .pointer (some ⟨g27, 0, none⟩)), (6, .pointer (some ⟨g21, 0, none⟩))]) (obs := []) (by kernel_rfl) ?_ ?_
  · intro w hs; exact trivial
  refine at_eff rfl rfl ?_
  obtain ⟨b2, H28, H⟩ := bind_some H
  refine eff_call rfl rfl ok63 rfl rfl (show Meets Try.prog 63 ([.pointer (some ⟨g21, 0, none⟩), .int .i64 4] : List Value).toArray _ [[(g21, .cells #[.slice A23 p22.b.length c24, .int .i64 p22.at_, .int .u64 p22.mix, .int .i64 p22.size] 82 (0, 0))]] _ from spec_l01Src_n.calls H28 hr25) (Mr := ([(g27, .cells #[.slice none ([] : List (List Int)).length 0, .int .i64 0] 38 (0, 0))] :: [(g26, .cells #[.slice none ([] : List (List Int)).length 0, .int .i64 0] 38 (0, 0))] :: Fs)) ((perm_at (k := 2) rfl).trans ((List.Perm.refl _).cons _)) (fun v29 J30 M31 hq32 hJ33 => ?_)
  replace hle := hle.trans hJ33
  replace hr25 := hr25.mono hJ33
  obtain ⟨A34, c35, rfl, rfl, hr36⟩ := hq32
  refine at_seg [2] [] rfl [] [0, 2, 3, 4] (L2 := [(0, .pointer (some ⟨g21, 0, none⟩)), (2, .pointer (some ⟨g26, 0, none⟩)), (3, .pointer (some ⟨g27, 0, none⟩)), (4, .int .i64 b2.1)]) (obs := []) (by kernel_rfl) ?_ ?_
  · intro w hs; exact trivial
  refine at_end ?_
  refine at_thn ?_
  refine at_join (fun L I Ms => ∃ (k146 : Nat), ∃ (x138 : Int) (x139 : List Int) (A140 : Option Addr) (c141 : Nat) (x143 : Int) (x144 : Int) (x145 : Int), L = [(0, .pointer (some ⟨g21, 0, none⟩)), (2, .pointer (some ⟨g26, 0, none⟩)), (3, .pointer (some ⟨g27, 0, none⟩)), (4, .int .i64 x138)] ∧ Ms = ([(g21, .cells #[.slice A140 x139.length c141, .int .i64 x143, .int .u64 x144, .int .i64 x145] 82 (0, 0))] :: [(g26, .cells #[.slice none ([] : List (List Int)).length 0, .int .i64 0] 38 (0, 0))] :: [(g27, .cells #[.slice none ([] : List (List Int)).length 0, .int .i64 0] 38 (0, 0))] :: Fs) ∧ spec_l01Src_l04Ring_j0 k146 x138 x139 x143 x144 x145 = some r ∧ ImmLe I0 I ∧ k146 ≤ k ∧ Rd (Kd.int .u8) I A140 c141 x139) ?_ ?_
  · clear H hle hr36
    intro L I Ms h_; obtain ⟨k146, x138, x139, A140, c141, x143, x144, x145, hL_, hM_, H, hle, hk147, hr142⟩ := h_; rw [hL_, hM_]; clear hL_ hM_ L Ms
    rcases k146 with _ | k146
    · exact (no_none H).elim
    rw [spec_l01Src_l04Ring_j0] at H
    refine at_join (fun L I Ms => ∃ (k262 : Nat), ∃ (x250 : List Int) (A251 : Option Addr) (c252 : Nat) (x254 : Int) (x255 : Int) (x256 : Int) (x257 : List (List Int)) (A258 : Option Addr) (c259 : Nat) (s260 : Seg), L = [(0, .pointer (some ⟨g21, 0, none⟩)), (2, .pointer (some ⟨g26, 0, none⟩)), (3, .pointer (some ⟨g27, 0, none⟩))] ∧ Ms = ([(g21, .cells #[.slice A251 x250.length c252, .int .i64 x254, .int .u64 x255, .int .i64 x256] 82 (0, 0))] :: [(g26, .cells #[.slice none ([] : List (List Int)).length 0, .int .i64 0] 38 (0, 0))] :: [(g27, .cells #[.slice A258 x257.length c259, .int .i64 0] 38 (0, 0))] :: s260 :: Fs) ∧ spec_l01Src_l04Ring_j1 k262 x250 x254 x255 x256 x257 = some r ∧ ImmLe I0 I ∧ k262 ≤ k146 ∧ Own (Kd.slice (Kd.int .i64)) 23 I A258 c259 x257 s260 ∧ Rd (Kd.int .u8) I A251 c252 x250) ?_ ?_
    · clear H hle hr142
      intro L I Ms h_; obtain ⟨k262, x250, A251, c252, x254, x255, x256, x257, A258, c259, s260, hL_, hM_, H, hle, hk263, ho261, hr253⟩ := h_; rw [hL_, hM_]; clear hL_ hM_ L Ms
      rcases k262 with _ | k262
      · exact (no_none H).elim
      rw [spec_l01Src_l04Ring_j1] at H
      refine at_join (fun L I Ms => ∃ (k373 : Nat), ∃ (x365 : List Int) (A366 : Option Addr) (c367 : Nat) (x369 : Int) (x370 : Int) (x371 : Int) (x372 : Int), L = [(0, .pointer (some ⟨g21, 0, none⟩)), (2, .pointer (some ⟨g26, 0, none⟩)), (3, .pointer (some ⟨g27, 0, none⟩))] ∧ Ms = ([(g21, .cells #[.slice A366 x365.length c367, .int .i64 x369, .int .u64 x370, .int .i64 x371] 82 (0, 0))] :: [(g26, .cells #[.slice none ([] : List (List Int)).length 0, .int .i64 0] 38 (0, 0))] :: [(g27, .cells #[.slice A258 x257.length c259, .int .i64 x372] 38 (0, 0))] :: s260 :: Fs) ∧ spec_l01Src_l04Ring_j2 k373 x365 x369 x370 x371 x372 x257 = some r ∧ ImmLe I0 I ∧ k373 ≤ k262 ∧ Own (Kd.slice (Kd.int .i64)) 23 I A258 c259 x257 s260 ∧ Rd (Kd.int .u8) I A366 c367 x365) ?_ ?_
      · clear H hle ho261 hr253
        intro L I Ms h_; obtain ⟨k373, x365, A366, c367, x369, x370, x371, x372, hL_, hM_, H, hle, hk374, ho261, hr368⟩ := h_; rw [hL_, hM_]; clear hL_ hM_ L Ms
        rcases k373 with _ | k373
        · exact (no_none H).elim
        rw [spec_l01Src_l04Ring_j2] at H
        refine at_seq ?_
        refine at_seq ?_
        refine at_ops [0, 1] rfl ?_
        refine at_seg [0] [1] rfl [] [0, 2, 3, 37] (L2 := [(0, .pointer (some ⟨g21, 0, none⟩)), (2, .pointer (some ⟨g26, 0, none⟩)), (3, .pointer (some ⟨g27, 0, none⟩)), (37, .pointer (some ⟨g21, 0, none⟩))]) (obs := []) (by kernel_rfl) ?_ ?_
        · intro w hs; exact trivial
        refine at_eff rfl rfl ?_
        obtain ⟨b3, H375, H⟩ := bind_some H
        refine eff_call rfl rfl ok64 rfl rfl (show Meets Try.prog 64 ([.pointer (some ⟨g21, 0, none⟩), .int .i64 20] : List Value).toArray _ [[(g21, .cells #[.slice A366 x365.length c367, .int .i64 x369, .int .u64 x370, .int .i64 x371] 82 (0, 0))]] _ from spec_l01Src_one.calls H375 hr368) (Mr := ([(g26, .cells #[.slice none ([] : List (List Int)).length 0, .int .i64 0] 38 (0, 0))] :: [(g27, .cells #[.slice A258 x257.length c259, .int .i64 x372] 38 (0, 0))] :: s260 :: Fs)) (List.Perm.refl _) (fun v376 J377 M378 hq379 hJ380 => ?_)
        replace hle := hle.trans hJ380
        replace ho261 := ho261.mono hJ380
        replace hr368 := hr368.mono hJ380
        obtain ⟨A381, c382, rfl, rfl, hr383⟩ := hq379
        refine at_end ?_
        refine at_thn ?_
        by_cases h384 : b3.1 = true
        · rw [if_pos h384] at H
          refine at_cond_t rfl (h384) ?_
          refine at_seq ?_
          refine at_ops [0, 1] rfl ?_
          refine at_seg [0] [1] rfl [] [0, 2, 3, 39] (L2 := [(0, .pointer (some ⟨g21, 0, none⟩)), (2, .pointer (some ⟨g26, 0, none⟩)), (3, .pointer (some ⟨g27, 0, none⟩)), (39, .pointer (some ⟨g21, 0, none⟩))]) (obs := []) (by kernel_rfl) ?_ ?_
          · intro w hs; exact trivial
          refine at_eff rfl rfl ?_
          obtain ⟨b4, H385, H⟩ := bind_some H
          refine eff_call rfl rfl ok63 rfl rfl (show Meets Try.prog 63 ([.pointer (some ⟨g21, 0, none⟩), .int .i64 3] : List Value).toArray _ [[(g21, .cells #[.slice A381 b3.2.b.length c382, .int .i64 b3.2.at_, .int .u64 b3.2.mix, .int .i64 b3.2.size] 82 (0, 0))]] _ from spec_l01Src_n.calls H385 hr383) (Mr := ([(g26, .cells #[.slice none ([] : List (List Int)).length 0, .int .i64 0] 38 (0, 0))] :: [(g27, .cells #[.slice A258 x257.length c259, .int .i64 x372] 38 (0, 0))] :: s260 :: Fs)) (List.Perm.refl _) (fun v386 J387 M388 hq389 hJ390 => ?_)
          replace hle := hle.trans hJ390
          replace ho261 := ho261.mono hJ390
          replace hr383 := hr383.mono hJ390
          obtain ⟨A391, c392, rfl, rfl, hr393⟩ := hq389
          refine at_end ?_
          refine at_thn ?_
          refine at_block ?_
          refine at_seq ?_
          refine at_reg [] [0, 2, 3, 40, 51] (L2 := [(0, .pointer (some ⟨g21, 0, none⟩)), (2, .pointer (some ⟨g26, 0, none⟩)), (3, .pointer (some ⟨g27, 0, none⟩)), (40, .int .i64 b4.1), (51, .bool (b4.1 == 0))]) (obs := []) (by kernel_rfl) ?_ ?_
          · intro w hs; exact trivial
          refine at_thn ?_
          by_cases h394 : b4.1 = 0
          · rw [if_pos h394] at H
            refine at_cond_t rfl (beq_iff_eq.2 h394) ?_
            refine at_x hmo (fun w => w.cell? ⟨g27, 0, none⟩ = some (.slice A258 x257.length c259)) [9] ?_
            refine at_xseg [0, 1, 2, 4] 6 (#[true, true, true, false, true, false, false, false, false, false]) rfl (by kernel_rfl) [(1, .slice A258 x257.length c259)] [2, 3, 55, 57] (L2 := [(2, .pointer (some ⟨g26, 0, none⟩)), (3, .pointer (some ⟨g27, 0, none⟩)), (55, .int .i64 (x257.length : Int)), (57, .pointer (some ⟨g21, 0, none⟩))]) (obs := [fun w => w.cell? ⟨g27, 0, none⟩ = some (.slice A258 x257.length c259)]) (by kernel_rfl) (by kernel_rfl) (by kernel_rfl) (.inr fun w hs => hs.var (k := 2) rfl 0 rfl) (fun w hS => hS) (fun w hs => hs.var (k := 2) rfl 0 rfl) ?_
            refine at_xall (fuel := 5) [3, 5] (by kernel_rfl) (by simp) (List.forall_mem_cons.2 ⟨?_, (List.forall_mem_cons.2 ⟨?_, fun _ h => nomatch h⟩)⟩)
            · refine at_xone (#[true, true, true, true, true, false, false, false, false, false]) (by kernel_rfl) rfl rfl ?_
              refine eff_buildSlice (e := 2) (cells := #[.int .i64 (-1), .int .i64 (x257.length : Int)]) ([(-1), (x257.length : Int)] : List Int).length rfl rfl rfl (by kernel_rfl) (fun g395 => ?_)
              have ho396 := own_lit (K := (Kd.int .i64)) (e := 2) (I := J387) (xs := ([(-1), (x257.length : Int)] : List Int)) (css := [[.int .i64 (-1)], [.int .i64 (x257.length : Int)]]) (cells := #[.int .i64 (-1), .int .i64 (x257.length : Int)]) (b := g395) ⟨rfl, ⟨rfl, trivial⟩⟩ rfl
              refine at_xS (fun w hs => hs.var (k := 3) rfl 0 rfl) ?_
              refine at_x1 4 5 (#[true, true, true, true, true, true, false, false, false, false]) rfl (by kernel_rfl) (by kernel_rfl) rfl rfl ?_
              obtain ⟨b5, H397, H⟩ := bind_some H
              refine eff_call rfl rfl ok63 rfl rfl (show Meets Try.prog 63 ([.pointer (some ⟨g21, 0, none⟩), .int .i64 2] : List Value).toArray _ [[(g21, .cells #[.slice A391 b4.2.b.length c392, .int .i64 b4.2.at_, .int .u64 b4.2.mix, .int .i64 b4.2.size] 82 (0, 0))]] _ from spec_l01Src_n.calls H397 hr393) (Mr := ([(g395, .cells #[.int .i64 (-1), .int .i64 (x257.length : Int)] 2 (0, 0))] :: [(g26, .cells #[.slice none ([] : List (List Int)).length 0, .int .i64 0] 38 (0, 0))] :: [(g27, .cells #[.slice A258 x257.length c259, .int .i64 x372] 38 (0, 0))] :: s260 :: Fs)) ((perm_at (k := 1) rfl).trans ((List.Perm.refl _).cons _)) (fun v398 J399 M400 hq401 hJ402 => ?_)
              replace hle := hle.trans hJ402
              replace ho261 := ho261.mono hJ402
              replace ho396 := ho396.mono hJ402
              replace hr393 := hr393.mono hJ402
              obtain ⟨A403, c404, rfl, rfl, hr405⟩ := hq401
              refine at_xS (fun w hs => hs.var (k := 3) rfl 0 rfl) ?_
              obtain ⟨h406, H⟩ := ite_some H
              obtain ⟨h407, H⟩ := ite_some H
              refine at_xweak (S' := fun w => w.cell? ⟨g27, 0, none⟩ = some (.slice A258 x257.length c259) ∧ w.cell? (((some ⟨g395, 0, none⟩ : Option Addr).getD ad0).add (b5.1.toNat * 1)) = some (.int .i64 (rdA 0 ([(-1), (x257.length : Int)] : List Int) b5.1))) (fun w h_ => h_.1) ?_
              refine at_xseg [6, 7, 8] 1 (#[true, true, true, true, true, true, true, true, true, false]) rfl (by kernel_rfl) [(7, .int .i64 (rdA 0 ([(-1), (x257.length : Int)] : List Int) b5.1))] [2, 3, 60, 61] (L2 := [(2, .pointer (some ⟨g26, 0, none⟩)), (3, .pointer (some ⟨g27, 0, none⟩)), (60, .int .i64 (rdA 0 ([(-1), (x257.length : Int)] : List Int) b5.1)), (61, .pointer (some ⟨g27, 1, none⟩))]) (obs := [fun _ => (some ⟨g395, 0, none⟩ : Option Addr).isSome = true ∧ 0 ≤ b5.1 ∧ b5.1 < ((([(-1), (x257.length : Int)] : List Int).length : Nat) : Int), fun w => w.cell? (((some ⟨g395, 0, none⟩ : Option Addr).getD ad0).add (b5.1.toNat * 1)) = some (.int .i64 (rdA 0 ([(-1), (x257.length : Int)] : List Int) b5.1))]) (by kernel_rfl) (by kernel_rfl) (by kernel_rfl) (.inr fun w hs => ⟨hs.var (k := 3) rfl 0 rfl, ho396.one 0 b5.1 h406 h407 hs (k := 1) rfl⟩) (fun w hS => ⟨⟨ho396.ne b5.1 h406 h407, h406, h407⟩, hS.2⟩) (fun w hs => ⟨⟨ho396.ne b5.1 h406 h407, h406, h407⟩, ho396.one 0 b5.1 h406 h407 hs (k := 1) rfl⟩) ?_
              refine at_x1 0 9 (#[true, true, true, true, true, true, true, true, true, true]) rfl (by kernel_rfl) (by kernel_rfl) rfl rfl ?_
              refine eff_store 3 rfl rfl rfl rfl rfl rfl (.inl (Nat.le_refl _)) rfl (Nat.le_of_ble_eq_true (by kernel_rfl)) rfl ?_
              refine at_xX (by kernel_rfl) ?_
              refine at_xend (by kernel_rfl) ?_
              refine at_in_norm ?_
              refine at_thn ?_
              refine at_seq ?_
              refine at_ops [0, 1] rfl ?_
              refine at_seg [0] [1] rfl [(0, .agg #[.slice A258 x257.length c259, .int .i64 (rdA 0 ([(-1), (x257.length : Int)] : List Int) b5.1)])] [2, 70] (L2 := [(2, .pointer (some ⟨g26, 0, none⟩)), (70, .agg #[.slice A258 x257.length c259, .int .i64 (rdA 0 ([(-1), (x257.length : Int)] : List Int) b5.1)])]) (obs := [fun w => CellsAt w ⟨g27, 0, none⟩ [.slice A258 x257.length c259, .int .i64 (rdA 0 ([(-1), (x257.length : Int)] : List Int) b5.1)] 0]) (by kernel_rfl) ?_ ?_
              · intro w hs; exact cellsV (k := 3) hs rfl _ 0 (Nat.le_of_ble_eq_true (by kernel_rfl)) rfl
              refine at_eff rfl rfl ?_
              refine eff_store 2 rfl rfl rfl rfl rfl rfl (.inl (Nat.le_refl _)) rfl (Nat.le_of_ble_eq_true (by kernel_rfl)) rfl ?_
              refine at_end ?_
              refine at_thn ?_
              refine at_ret ?_
              obtain rfl := Option.some.inj H
              refine at_drop (k := 1) rfl rfl ?_
              refine at_drop (k := 2) rfl rfl ?_
              refine at_perm ((perm_at (k := 2) rfl).trans ((List.Perm.refl _).cons _)) ?_
              refine at_done (vs := [.agg #[.slice A258 x257.length c259, .int .i64 (rdA 0 ([(-1), (x257.length : Int)] : List Int) b5.1)]]) (obs := [fun w => CellsAt w ⟨g26, 0, none⟩ [.slice A258 x257.length c259, .int .i64 (rdA 0 ([(-1), (x257.length : Int)] : List Int) b5.1)] 0]) (.inl rfl) [.cell 2 38] [(2, .agg #[.slice A258 x257.length c259, .int .i64 (rdA 0 ([(-1), (x257.length : Int)] : List Int) b5.1)])] rfl (by kernel_rfl) (fun w hs => cellsV (k := 2) hs rfl _ 0 (Nat.le_of_ble_eq_true (by kernel_rfl)) rfl) (fun w hs => ⟨_, _, [s260, [(g21, .cells #[.slice A403 b5.2.b.length c404, .int .i64 b5.2.at_, .int .u64 b5.2.mix, .int .i64 b5.2.size] 82 (0, 0))]], rfl, ⟨A258, c259, s260, A403, c404, rfl, rfl, ho261, hr405⟩, hle, (hs.tail (perm_at (k := 2) rfl))⟩)
            · refine at_xone (#[true, true, true, false, true, true, false, false, false, false]) (by kernel_rfl) rfl rfl ?_
              obtain ⟨b5, H408, H⟩ := bind_some H
              refine eff_call rfl rfl ok63 rfl rfl (show Meets Try.prog 63 ([.pointer (some ⟨g21, 0, none⟩), .int .i64 2] : List Value).toArray _ [[(g21, .cells #[.slice A391 b4.2.b.length c392, .int .i64 b4.2.at_, .int .u64 b4.2.mix, .int .i64 b4.2.size] 82 (0, 0))]] _ from spec_l01Src_n.calls H408 hr393) (Mr := ([(g26, .cells #[.slice none ([] : List (List Int)).length 0, .int .i64 0] 38 (0, 0))] :: [(g27, .cells #[.slice A258 x257.length c259, .int .i64 x372] 38 (0, 0))] :: s260 :: Fs)) (List.Perm.refl _) (fun v409 J410 M411 hq412 hJ413 => ?_)
              replace hle := hle.trans hJ413
              replace ho261 := ho261.mono hJ413
              replace hr393 := hr393.mono hJ413
              obtain ⟨A414, c415, rfl, rfl, hr416⟩ := hq412
              refine at_xS (fun w hs => hs.var (k := 2) rfl 0 rfl) ?_
              refine at_x1 4 3 (#[true, true, true, true, true, true, false, false, false, false]) rfl (by kernel_rfl) (by kernel_rfl) rfl rfl ?_
              refine eff_buildSlice (e := 2) (cells := #[.int .i64 (-1), .int .i64 (x257.length : Int)]) ([(-1), (x257.length : Int)] : List Int).length rfl rfl rfl (by kernel_rfl) (fun g417 => ?_)
              have ho418 := own_lit (K := (Kd.int .i64)) (e := 2) (I := J410) (xs := ([(-1), (x257.length : Int)] : List Int)) (css := [[.int .i64 (-1)], [.int .i64 (x257.length : Int)]]) (cells := #[.int .i64 (-1), .int .i64 (x257.length : Int)]) (b := g417) ⟨rfl, ⟨rfl, trivial⟩⟩ rfl
              refine at_xS (fun w hs => hs.var (k := 3) rfl 0 rfl) ?_
              obtain ⟨h419, H⟩ := ite_some H
              obtain ⟨h420, H⟩ := ite_some H
              refine at_xweak (S' := fun w => w.cell? ⟨g27, 0, none⟩ = some (.slice A258 x257.length c259) ∧ w.cell? (((some ⟨g417, 0, none⟩ : Option Addr).getD ad0).add (b5.1.toNat * 1)) = some (.int .i64 (rdA 0 ([(-1), (x257.length : Int)] : List Int) b5.1))) (fun w h_ => h_.1) ?_
              refine at_xseg [6, 7, 8] 1 (#[true, true, true, true, true, true, true, true, true, false]) rfl (by kernel_rfl) [(7, .int .i64 (rdA 0 ([(-1), (x257.length : Int)] : List Int) b5.1))] [2, 3, 60, 61] (L2 := [(2, .pointer (some ⟨g26, 0, none⟩)), (3, .pointer (some ⟨g27, 0, none⟩)), (60, .int .i64 (rdA 0 ([(-1), (x257.length : Int)] : List Int) b5.1)), (61, .pointer (some ⟨g27, 1, none⟩))]) (obs := [fun _ => (some ⟨g417, 0, none⟩ : Option Addr).isSome = true ∧ 0 ≤ b5.1 ∧ b5.1 < ((([(-1), (x257.length : Int)] : List Int).length : Nat) : Int), fun w => w.cell? (((some ⟨g417, 0, none⟩ : Option Addr).getD ad0).add (b5.1.toNat * 1)) = some (.int .i64 (rdA 0 ([(-1), (x257.length : Int)] : List Int) b5.1))]) (by kernel_rfl) (by kernel_rfl) (by kernel_rfl) (.inr fun w hs => ⟨hs.var (k := 3) rfl 0 rfl, ho418.one 0 b5.1 h419 h420 hs (k := 0) rfl⟩) (fun w hS => ⟨⟨ho418.ne b5.1 h419 h420, h419, h420⟩, hS.2⟩) (fun w hs => ⟨⟨ho418.ne b5.1 h419 h420, h419, h420⟩, ho418.one 0 b5.1 h419 h420 hs (k := 0) rfl⟩) ?_
              refine at_x1 0 9 (#[true, true, true, true, true, true, true, true, true, true]) rfl (by kernel_rfl) (by kernel_rfl) rfl rfl ?_
              refine eff_store 3 rfl rfl rfl rfl rfl rfl (.inl (Nat.le_refl _)) rfl (Nat.le_of_ble_eq_true (by kernel_rfl)) rfl ?_
              refine at_xX (by kernel_rfl) ?_
              refine at_xend (by kernel_rfl) ?_
              refine at_in_norm ?_
              refine at_thn ?_
              refine at_seq ?_
              refine at_ops [0, 1] rfl ?_
              refine at_seg [0] [1] rfl [(0, .agg #[.slice A258 x257.length c259, .int .i64 (rdA 0 ([(-1), (x257.length : Int)] : List Int) b5.1)])] [2, 70] (L2 := [(2, .pointer (some ⟨g26, 0, none⟩)), (70, .agg #[.slice A258 x257.length c259, .int .i64 (rdA 0 ([(-1), (x257.length : Int)] : List Int) b5.1)])]) (obs := [fun w => CellsAt w ⟨g27, 0, none⟩ [.slice A258 x257.length c259, .int .i64 (rdA 0 ([(-1), (x257.length : Int)] : List Int) b5.1)] 0]) (by kernel_rfl) ?_ ?_
              · intro w hs; exact cellsV (k := 3) hs rfl _ 0 (Nat.le_of_ble_eq_true (by kernel_rfl)) rfl
              refine at_eff rfl rfl ?_
              refine eff_store 2 rfl rfl rfl rfl rfl rfl (.inl (Nat.le_refl _)) rfl (Nat.le_of_ble_eq_true (by kernel_rfl)) rfl ?_
              refine at_end ?_
              refine at_thn ?_
              refine at_ret ?_
              obtain rfl := Option.some.inj H
              refine at_drop (k := 0) rfl rfl ?_
              refine at_drop (k := 2) rfl rfl ?_
              refine at_perm ((perm_at (k := 2) rfl).trans ((List.Perm.refl _).cons _)) ?_
              refine at_done (vs := [.agg #[.slice A258 x257.length c259, .int .i64 (rdA 0 ([(-1), (x257.length : Int)] : List Int) b5.1)]]) (obs := [fun w => CellsAt w ⟨g26, 0, none⟩ [.slice A258 x257.length c259, .int .i64 (rdA 0 ([(-1), (x257.length : Int)] : List Int) b5.1)] 0]) (.inl rfl) [.cell 2 38] [(2, .agg #[.slice A258 x257.length c259, .int .i64 (rdA 0 ([(-1), (x257.length : Int)] : List Int) b5.1)])] rfl (by kernel_rfl) (fun w hs => cellsV (k := 2) hs rfl _ 0 (Nat.le_of_ble_eq_true (by kernel_rfl)) rfl) (fun w hs => ⟨_, _, [s260, [(g21, .cells #[.slice A414 b5.2.b.length c415, .int .i64 b5.2.at_, .int .u64 b5.2.mix, .int .i64 b5.2.size] 82 (0, 0))]], rfl, ⟨A258, c259, s260, A414, c415, rfl, rfl, ho261, hr416⟩, hle, (hs.tail (perm_at (k := 2) rfl))⟩)
          · rw [if_neg h394] at H
            refine at_cond_f rfl (beq_eq_false_iff_ne.2 h394) ?_
            refine at_seq ?_
            refine at_reg [] [0, 2, 3, 62] (L2 := [(0, .pointer (some ⟨g21, 0, none⟩)), (2, .pointer (some ⟨g26, 0, none⟩)), (3, .pointer (some ⟨g27, 0, none⟩)), (62, .bool (b4.1 == 1))]) (obs := []) (by kernel_rfl) ?_ ?_
            · intro w hs; exact trivial
            refine at_thn ?_
            by_cases h421 : b4.1 = 1
            · rw [if_pos h421] at H
              refine at_cond_t rfl (beq_iff_eq.2 h421) ?_
              refine at_ops [0, 1, 2, 3, 4, 5, 6] rfl ?_
              refine at_seg [0, 1] [2, 3, 4, 5, 6] rfl [(1, .slice A258 x257.length c259)] [2, 3, 65] (L2 := [(2, .pointer (some ⟨g26, 0, none⟩)), (3, .pointer (some ⟨g27, 0, none⟩)), (65, .slice A258 x257.length c259)]) (obs := [fun w => w.cell? ⟨g27, 0, none⟩ = some (.slice A258 x257.length c259)]) (by kernel_rfl) ?_ ?_
              · intro w hs; exact hs.var (k := 2) rfl 0 rfl
              refine at_eff rfl rfl ?_
              refine eff_buildSlice (e := 2) (cells := #[]) ([] : List Int).length rfl rfl rfl (by kernel_rfl) (fun g422 => ?_)
              have ho423 := own_lit (K := (Kd.int .i64)) (e := 2) (I := J387) (xs := ([] : List Int)) (css := []) (cells := #[]) (b := g422) trivial rfl
              refine at_eff rfl rfl ?_
              refine at_freeze (k := 0) rfl rfl (fun J424 hJ425 hin426 => ?_)
              replace hle := hle.trans hJ425
              replace ho261 := ho261.mono hJ425
              replace ho423 := ho423.mono hJ425
              replace hr393 := hr393.mono hJ425
              have hr427 := ho423.rd (ImmLe.refl _) hin426
              refine eff_buildSlice (e := 23) (cells := #[.slice (some ⟨g422, 0, none⟩ : Option Addr) ([] : List Int).length (([] : List Int).length)]) ([([] : List Int)] : List (List Int)).length rfl rfl rfl (by kernel_rfl) (fun g428 => ?_)
              have ho429 := own_lit (K := (Kd.slice (Kd.int .i64))) (e := 23) (I := J424) (xs := ([([] : List Int)] : List (List Int))) (css := [[.slice (some ⟨g422, 0, none⟩ : Option Addr) ([] : List Int).length (([] : List Int).length)]]) (cells := #[.slice (some ⟨g422, 0, none⟩ : Option Addr) ([] : List Int).length (([] : List Int).length)]) (b := g428) ⟨⟨(some ⟨g422, 0, none⟩ : Option Addr), ([] : List Int).length, rfl, hr427⟩, trivial⟩ rfl
              refine at_eff rfl rfl ?_
              obtain ⟨h430, H⟩ := ite_some H
              obtain ⟨i_, hi_, hz_, hs_, hb_⟩ := info23
              refine eff_append (K := (Kd.slice (Kd.int .i64))) (xs := x257) (ys := ([([] : List Int)] : List (List Int))) 4 rfl rfl rfl rfl rfl und34 und34 hi_ hz_ hs_ rfl rfl rfl ho261 rfl (fun w hs => ho429.rowAt (k := 0) hs rfl) (by rw [hb_]; omega) (by omega) (fun A431 c432 s433 ho434 => ?_)
              refine at_seg [5] [6] rfl [] [2, 3, 68, 69] (L2 := [(2, .pointer (some ⟨g26, 0, none⟩)), (3, .pointer (some ⟨g27, 0, none⟩)), (68, .slice A431 (x257 ++ ([([] : List Int)] : List (List Int))).length c432), (69, .pointer (some ⟨g27, 0, none⟩))]) (obs := []) (by kernel_rfl) ?_ ?_
              · intro w hs; exact trivial
              refine at_eff rfl rfl ?_
              refine eff_store 3 rfl rfl rfl rfl rfl rfl (.inl (Nat.le_refl _)) rfl (Nat.le_of_ble_eq_true (by kernel_rfl)) rfl ?_
              refine at_end ?_
              refine at_in_norm ?_
              refine at_thn ?_
              refine at_seq ?_
              refine at_ops [0, 1] rfl ?_
              refine at_seg [0] [1] rfl [(0, .agg #[.slice A431 (x257 ++ ([([] : List Int)] : List (List Int))).length c432, .int .i64 x372])] [2, 70] (L2 := [(2, .pointer (some ⟨g26, 0, none⟩)), (70, .agg #[.slice A431 (x257 ++ ([([] : List Int)] : List (List Int))).length c432, .int .i64 x372])]) (obs := [fun w => CellsAt w ⟨g27, 0, none⟩ [.slice A431 (x257 ++ ([([] : List Int)] : List (List Int))).length c432, .int .i64 x372] 0]) (by kernel_rfl) ?_ ?_
              · intro w hs; exact cellsV (k := 3) hs rfl _ 0 (Nat.le_of_ble_eq_true (by kernel_rfl)) rfl
              refine at_eff rfl rfl ?_
              refine eff_store 2 rfl rfl rfl rfl rfl rfl (.inl (Nat.le_refl _)) rfl (Nat.le_of_ble_eq_true (by kernel_rfl)) rfl ?_
              refine at_end ?_
              refine at_thn ?_
              refine at_ret ?_
              obtain rfl := Option.some.inj H
              refine at_drop (k := 0) rfl rfl ?_
              refine at_drop (k := 2) rfl rfl ?_
              refine at_perm ((perm_at (k := 2) rfl).trans ((List.Perm.refl _).cons _)) ?_
              refine at_done (vs := [.agg #[.slice A431 (x257 ++ ([([] : List Int)] : List (List Int))).length c432, .int .i64 x372]]) (obs := [fun w => CellsAt w ⟨g26, 0, none⟩ [.slice A431 (x257 ++ ([([] : List Int)] : List (List Int))).length c432, .int .i64 x372] 0]) (.inl rfl) [.cell 2 38] [(2, .agg #[.slice A431 (x257 ++ ([([] : List Int)] : List (List Int))).length c432, .int .i64 x372])] rfl (by kernel_rfl) (fun w hs => cellsV (k := 2) hs rfl _ 0 (Nat.le_of_ble_eq_true (by kernel_rfl)) rfl) (fun w hs => ⟨_, _, [s433, [(g21, .cells #[.slice A391 b4.2.b.length c392, .int .i64 b4.2.at_, .int .u64 b4.2.mix, .int .i64 b4.2.size] 82 (0, 0))]], rfl, ⟨A431, c432, s433, A391, c392, rfl, rfl, ho434, hr393⟩, hle, (hs.tail (perm_at (k := 2) rfl))⟩)
            · rw [if_neg h421] at H
              refine at_cond_f rfl (beq_eq_false_iff_ne.2 h421) ?_
              refine at_x hmo (fun w => w.cell? ⟨g27, 0, none⟩ = some (.slice A258 x257.length c259)) [8, 10] ?_
              refine at_xseg [0, 1, 2, 3] 7 (#[true, true, true, true, false, false, false, false, false, false, false]) rfl (by kernel_rfl) [(1, .slice A258 x257.length c259)] [2, 3, 42, 43, 44] (L2 := [(2, .pointer (some ⟨g26, 0, none⟩)), (3, .pointer (some ⟨g27, 0, none⟩)), (42, .slice A258 x257.length c259), (43, .pointer (some ⟨g21, 0, none⟩)), (44, .pointer (some ⟨g21, 0, none⟩))]) (obs := [fun w => w.cell? ⟨g27, 0, none⟩ = some (.slice A258 x257.length c259)]) (by kernel_rfl) (by kernel_rfl) (by kernel_rfl) (.inr fun w hs => hs.var (k := 2) rfl 0 rfl) (fun w hS => hS) (fun w hs => hs.var (k := 2) rfl 0 rfl) ?_
              refine at_x1 6 4 (#[true, true, true, true, true, false, false, false, false, false, false]) rfl (by kernel_rfl) (by kernel_rfl) rfl rfl ?_
              obtain ⟨b6, H435, H⟩ := bind_some H
              refine eff_call rfl rfl ok63 rfl rfl (show Meets Try.prog 63 ([.pointer (some ⟨g21, 0, none⟩), .int .i64 5] : List Value).toArray _ [[(g21, .cells #[.slice A391 b4.2.b.length c392, .int .i64 b4.2.at_, .int .u64 b4.2.mix, .int .i64 b4.2.size] 82 (0, 0))]] _ from spec_l01Src_n.calls H435 hr393) (Mr := ([(g26, .cells #[.slice none ([] : List (List Int)).length 0, .int .i64 0] 38 (0, 0))] :: [(g27, .cells #[.slice A258 x257.length c259, .int .i64 x372] 38 (0, 0))] :: s260 :: Fs)) (List.Perm.refl _) (fun v436 J437 M438 hq439 hJ440 => ?_)
              replace hle := hle.trans hJ440
              replace ho261 := ho261.mono hJ440
              replace hr393 := hr393.mono hJ440
              obtain ⟨A441, c442, rfl, rfl, hr443⟩ := hq439
              refine at_xS (fun w hs => hs.var (k := 2) rfl 0 rfl) ?_
              refine at_xseg [5] 5 (#[true, true, true, true, true, true, false, false, false, false, false]) rfl (by kernel_rfl) [] [2, 3, 42, 43, 46] (L2 := [(2, .pointer (some ⟨g26, 0, none⟩)), (3, .pointer (some ⟨g27, 0, none⟩)), (42, .slice A258 x257.length c259), (43, .pointer (some ⟨g21, 0, none⟩)), (46, .int .i64 (IntKind.i64.wrap (297 + b6.1)))]) (obs := []) (by kernel_rfl) (by kernel_rfl) (by kernel_rfl) (.inr fun w hs => hs.var (k := 2) rfl 0 rfl) (fun w hS => trivial) (fun w hs => trivial) ?_
              refine at_x1 4 6 (#[true, true, true, true, true, true, true, false, false, false, false]) rfl (by kernel_rfl) (by kernel_rfl) rfl rfl ?_
              obtain ⟨b7, H444, H⟩ := bind_some H
              refine eff_call rfl rfl ok62 rfl rfl (show Meets Try.prog 62 ([.pointer (some ⟨g21, 0, none⟩), .int .i64 (IntKind.i64.wrap (297 + b6.1))] : List Value).toArray _ [[(g21, .cells #[.slice A441 b6.2.b.length c442, .int .i64 b6.2.at_, .int .u64 b6.2.mix, .int .i64 b6.2.size] 82 (0, 0))]] _ from spec_l01Src_points.calls H444 hr443) (Mr := ([(g26, .cells #[.slice none ([] : List (List Int)).length 0, .int .i64 0] 38 (0, 0))] :: [(g27, .cells #[.slice A258 x257.length c259, .int .i64 x372] 38 (0, 0))] :: s260 :: Fs)) (List.Perm.refl _) (fun v445 J446 M447 hq448 hJ449 => ?_)
              replace hle := hle.trans hJ449
              replace ho261 := ho261.mono hJ449
              replace hr443 := hr443.mono hJ449
              obtain ⟨A450, c451, s452, A454, c455, rfl, rfl, ho453, hr456⟩ := hq448
              refine at_xS (fun w hs => hs.var (k := 3) rfl 0 rfl) ?_
              refine at_x1 3 7 (#[true, true, true, true, true, true, true, true, false, false, false]) rfl (by kernel_rfl) (by kernel_rfl) rfl rfl ?_
              refine at_freeze (k := 0) rfl rfl (fun J457 hJ458 hin459 => ?_)
              replace hle := hle.trans hJ458
              replace ho261 := ho261.mono hJ458
              replace ho453 := ho453.mono hJ458
              replace hr456 := hr456.mono hJ458
              have hr460 := ho453.rd (ImmLe.refl _) hin459
              refine eff_buildSlice (e := 23) (cells := #[.slice A450 b7.1.length c451]) ([b7.1] : List (List Int)).length rfl rfl rfl (by kernel_rfl) (fun g461 => ?_)
              have ho462 := own_lit (K := (Kd.slice (Kd.int .i64))) (e := 23) (I := J457) (xs := ([b7.1] : List (List Int))) (css := [[.slice A450 b7.1.length c451]]) (cells := #[.slice A450 b7.1.length c451]) (b := g461) ⟨⟨A450, c451, rfl, hr460⟩, trivial⟩ rfl
              refine at_xS (fun w hs => hs.var (k := 3) rfl 0 rfl) ?_
              refine at_x1 2 8 (#[true, true, true, true, true, true, true, true, true, false, false]) rfl (by kernel_rfl) (by kernel_rfl) rfl rfl ?_
              obtain ⟨h463, H⟩ := ite_some H
              obtain ⟨i_, hi_, hz_, hs_, hb_⟩ := info23
              refine eff_append (K := (Kd.slice (Kd.int .i64))) (xs := x257) (ys := ([b7.1] : List (List Int))) 4 rfl rfl rfl rfl rfl und34 und34 hi_ hz_ hs_ rfl rfl rfl ho261 rfl (fun w hs => ho462.rowAt (k := 0) hs rfl) (by rw [hb_]; omega) (by omega) (fun A464 c465 s466 ho467 => ?_)
              refine at_xX (by kernel_rfl) ?_
              refine at_xseg [9] 1 (#[true, true, true, true, true, true, true, true, true, true, false]) rfl (by kernel_rfl) [] [2, 3, 49, 50] (L2 := [(2, .pointer (some ⟨g26, 0, none⟩)), (3, .pointer (some ⟨g27, 0, none⟩)), (49, .slice A464 (x257 ++ ([b7.1] : List (List Int))).length c465), (50, .pointer (some ⟨g27, 0, none⟩))]) (obs := []) (by kernel_rfl) (by kernel_rfl) (by kernel_rfl) (.inl (by kernel_rfl)) (fun w hS => trivial) (fun w hs => trivial) ?_
              refine at_x1 0 10 (#[true, true, true, true, true, true, true, true, true, true, true]) rfl (by kernel_rfl) (by kernel_rfl) rfl rfl ?_
              refine eff_store 3 rfl rfl rfl rfl rfl rfl (.inl (Nat.le_refl _)) rfl (Nat.le_of_ble_eq_true (by kernel_rfl)) rfl ?_
              refine at_xX (by kernel_rfl) ?_
              refine at_xend (by kernel_rfl) ?_
              refine at_in_norm ?_
              refine at_thn ?_
              refine at_seq ?_
              refine at_ops [0, 1] rfl ?_
              refine at_seg [0] [1] rfl [(0, .agg #[.slice A464 (x257 ++ ([b7.1] : List (List Int))).length c465, .int .i64 x372])] [2, 70] (L2 := [(2, .pointer (some ⟨g26, 0, none⟩)), (70, .agg #[.slice A464 (x257 ++ ([b7.1] : List (List Int))).length c465, .int .i64 x372])]) (obs := [fun w => CellsAt w ⟨g27, 0, none⟩ [.slice A464 (x257 ++ ([b7.1] : List (List Int))).length c465, .int .i64 x372] 0]) (by kernel_rfl) ?_ ?_
              · intro w hs; exact cellsV (k := 3) hs rfl _ 0 (Nat.le_of_ble_eq_true (by kernel_rfl)) rfl
              refine at_eff rfl rfl ?_
              refine eff_store 2 rfl rfl rfl rfl rfl rfl (.inl (Nat.le_refl _)) rfl (Nat.le_of_ble_eq_true (by kernel_rfl)) rfl ?_
              refine at_end ?_
              refine at_thn ?_
              refine at_ret ?_
              obtain rfl := Option.some.inj H
              refine at_drop (k := 0) rfl rfl ?_
              refine at_drop (k := 2) rfl rfl ?_
              refine at_perm ((perm_at (k := 2) rfl).trans ((List.Perm.refl _).cons _)) ?_
              refine at_done (vs := [.agg #[.slice A464 (x257 ++ ([b7.1] : List (List Int))).length c465, .int .i64 x372]]) (obs := [fun w => CellsAt w ⟨g26, 0, none⟩ [.slice A464 (x257 ++ ([b7.1] : List (List Int))).length c465, .int .i64 x372] 0]) (.inl rfl) [.cell 2 38] [(2, .agg #[.slice A464 (x257 ++ ([b7.1] : List (List Int))).length c465, .int .i64 x372])] rfl (by kernel_rfl) (fun w hs => cellsV (k := 2) hs rfl _ 0 (Nat.le_of_ble_eq_true (by kernel_rfl)) rfl) (fun w hs => ⟨_, _, [s466, [(g21, .cells #[.slice A454 b7.2.b.length c455, .int .i64 b7.2.at_, .int .u64 b7.2.mix, .int .i64 b7.2.size] 82 (0, 0))]], rfl, ⟨A464, c465, s466, A454, c455, rfl, rfl, ho467, hr456⟩, hle, (hs.tail (perm_at (k := 2) rfl))⟩)
        · rw [if_neg h384] at H
          refine at_cond_f rfl (ff_of h384) ?_
          refine at_skip ?_
          refine at_thn ?_
          refine at_seq ?_
          refine at_ops [0, 1] rfl ?_
          refine at_seg [0] [1] rfl [(0, .agg #[.slice A258 x257.length c259, .int .i64 x372])] [2, 70] (L2 := [(2, .pointer (some ⟨g26, 0, none⟩)), (70, .agg #[.slice A258 x257.length c259, .int .i64 x372])]) (obs := [fun w => CellsAt w ⟨g27, 0, none⟩ [.slice A258 x257.length c259, .int .i64 x372] 0]) (by kernel_rfl) ?_ ?_
          · intro w hs; exact cellsV (k := 2) hs rfl _ 0 (Nat.le_of_ble_eq_true (by kernel_rfl)) rfl
          refine at_eff rfl rfl ?_
          refine eff_store 1 rfl rfl rfl rfl rfl rfl (.inl (Nat.le_refl _)) rfl (Nat.le_of_ble_eq_true (by kernel_rfl)) rfl ?_
          refine at_end ?_
          refine at_thn ?_
          refine at_ret ?_
          obtain rfl := Option.some.inj H
          refine at_drop (k := 2) rfl rfl ?_
          refine at_perm ((perm_at (k := 2) rfl).trans ((List.Perm.refl _).cons _)) ?_
          refine at_done (vs := [.agg #[.slice A258 x257.length c259, .int .i64 x372]]) (obs := [fun w => CellsAt w ⟨g26, 0, none⟩ [.slice A258 x257.length c259, .int .i64 x372] 0]) (.inl rfl) [.cell 2 38] [(2, .agg #[.slice A258 x257.length c259, .int .i64 x372])] rfl (by kernel_rfl) (fun w hs => cellsV (k := 2) hs rfl _ 0 (Nat.le_of_ble_eq_true (by kernel_rfl)) rfl) (fun w hs => ⟨_, _, [s260, [(g21, .cells #[.slice A381 b3.2.b.length c382, .int .i64 b3.2.at_, .int .u64 b3.2.mix, .int .i64 b3.2.size] 82 (0, 0))]], rfl, ⟨A258, c259, s260, A381, c382, rfl, rfl, ho261, hr383⟩, hle, (hs.tail (perm_at (k := 2) rfl))⟩)
      · intro Jn264
        refine at_seq ?_
        refine at_reg [(1, .slice A258 x257.length c259)] [0, 2, 3, 30] (L2 := [(0, .pointer (some ⟨g21, 0, none⟩)), (2, .pointer (some ⟨g26, 0, none⟩)), (3, .pointer (some ⟨g27, 0, none⟩)), (30, .bool (decide ((x257.length : Int) > 0)))]) (obs := [fun w => w.cell? ⟨g27, 0, none⟩ = some (.slice A258 x257.length c259)]) (by kernel_rfl) ?_ ?_
        · intro w hs; exact hs.var (k := 2) rfl 0 rfl
        refine at_thn ?_
        by_cases h468 : (x257.length : Int) > 0
        · rw [if_pos h468] at H
          refine at_cond_t rfl (decide_eq_true h468) ?_
          refine at_ops [0, 1, 2, 3, 4, 5, 6] rfl ?_
          refine at_seg [0, 1, 2, 3] [4, 5, 6] rfl [(2, .slice A258 x257.length c259)] [0, 2, 3, 31, 34] (L2 := [(0, .pointer (some ⟨g21, 0, none⟩)), (2, .pointer (some ⟨g26, 0, none⟩)), (3, .pointer (some ⟨g27, 0, none⟩)), (31, .pointer (some ⟨g21, 0, none⟩)), (34, .int .i64 (x257.length : Int))]) (obs := [fun w => w.cell? ⟨g27, 0, none⟩ = some (.slice A258 x257.length c259)]) (by kernel_rfl) ?_ ?_
          · intro w hs; exact hs.var (k := 2) rfl 0 rfl
          refine at_eff rfl rfl ?_
          obtain ⟨b8, H469, H⟩ := bind_some H
          refine eff_call rfl rfl ok63 rfl rfl (show Meets Try.prog 63 ([.pointer (some ⟨g21, 0, none⟩), .int .i64 (x257.length : Int)] : List Value).toArray _ [[(g21, .cells #[.slice A251 x250.length c252, .int .i64 x254, .int .u64 x255, .int .i64 x256] 82 (0, 0))]] _ from spec_l01Src_n.calls H469 hr253) (Mr := ([(g26, .cells #[.slice none ([] : List (List Int)).length 0, .int .i64 0] 38 (0, 0))] :: [(g27, .cells #[.slice A258 x257.length c259, .int .i64 0] 38 (0, 0))] :: s260 :: Fs)) (List.Perm.refl _) (fun v470 J471 M472 hq473 hJ474 => ?_)
          replace hle := hle.trans hJ474
          replace ho261 := ho261.mono hJ474
          replace hr253 := hr253.mono hJ474
          obtain ⟨A475, c476, rfl, rfl, hr477⟩ := hq473
          refine at_seg [5] [6] rfl [] [0, 2, 3, 35, 36] (L2 := [(0, .pointer (some ⟨g21, 0, none⟩)), (2, .pointer (some ⟨g26, 0, none⟩)), (3, .pointer (some ⟨g27, 0, none⟩)), (35, .int .i64 b8.1), (36, .pointer (some ⟨g27, 1, none⟩))]) (obs := []) (by kernel_rfl) ?_ ?_
          · intro w hs; exact trivial
          refine at_eff rfl rfl ?_
          refine eff_store 2 rfl rfl rfl rfl rfl rfl (.inl (Nat.le_refl _)) rfl (Nat.le_of_ble_eq_true (by kernel_rfl)) rfl ?_
          refine at_end ?_
          refine at_thn ?_
          refine at_keep [0, 2, 3] (L2 := [(0, .pointer (some ⟨g21, 0, none⟩)), (2, .pointer (some ⟨g26, 0, none⟩)), (3, .pointer (some ⟨g27, 0, none⟩))]) rfl ?_
          exact Jn264 _ _ _ ⟨_, b8.2.b, A475, c476, b8.2.at_, b8.2.mix, b8.2.size, b8.1, rfl, rfl, H, hle, by omega, ho261, hr477⟩
        · rw [if_neg h468] at H
          refine at_cond_f rfl (decide_eq_false h468) ?_
          refine at_skip ?_
          refine at_thn ?_
          refine at_keep [0, 2, 3] (L2 := [(0, .pointer (some ⟨g21, 0, none⟩)), (2, .pointer (some ⟨g26, 0, none⟩)), (3, .pointer (some ⟨g27, 0, none⟩))]) rfl ?_
          exact Jn264 _ _ _ ⟨_, x250, A251, c252, x254, x255, x256, 0, rfl, rfl, H, hle, by omega, ho261, hr253⟩
    · intro Jn148
      refine at_block ?_
      refine at_nilseg ?_
      have ho478 := Own.nil (Kd.slice (Kd.int .i64)) 23 I
      refine at_perm ((perm_at (k := 1) rfl).trans (((perm_at (k := 1) rfl).trans (((perm_at (k := 1) rfl).trans ((List.Perm.refl _).cons _)).cons _)).cons _)) ?_
      refine at_keep [0, 2, 3, 4] (L2 := [(0, .pointer (some ⟨g21, 0, none⟩)), (2, .pointer (some ⟨g26, 0, none⟩)), (3, .pointer (some ⟨g27, 0, none⟩)), (4, .int .i64 x138)]) rfl ?_
      refine at_loop (fun k492 L I Ms => ∃ (x479 : Int) (x480 : List Int) (A481 : Option Addr) (c482 : Nat) (x484 : Int) (x485 : Int) (x486 : Int) (x487 : List (List Int)) (A488 : Option Addr) (c489 : Nat) (s490 : Seg), L = [(0, .pointer (some ⟨g21, 0, none⟩)), (2, .pointer (some ⟨g26, 0, none⟩)), (3, .pointer (some ⟨g27, 0, none⟩)), (4, .int .i64 x479)] ∧ Ms = ([(g21, .cells #[.slice A481 x480.length c482, .int .i64 x484, .int .u64 x485, .int .i64 x486] 82 (0, 0))] :: [(g26, .cells #[.slice none ([] : List (List Int)).length 0, .int .i64 0] 38 (0, 0))] :: [(g27, .cells #[.slice A488 x487.length c489, .int .i64 0] 38 (0, 0))] :: s490 :: Fs) ∧ spec_l01Src_l04Ring_l0 k492 x479 x480 x484 x485 x486 x487 = some r ∧ ImmLe I0 I ∧ k492 ≤ k146 ∧ Own (Kd.slice (Kd.int .i64)) 23 I A488 c489 x487 s490 ∧ Rd (Kd.int .u8) I A481 c482 x480) ?_ ?_ k146 ⟨x138, x139, A140, c141, x143, x144, x145, ([] : List (List Int)), none, 0, [], rfl, rfl, H, hle, Nat.le_refl _, ho478, hr142⟩
      · rintro L I Ms ⟨_, _, _, _, _, _, _, _, _, _, _, rfl, rfl, H, _⟩; exact no_none H
      · clear H hle ho478 hr142
        intro k492 ih493 L I Ms h_; obtain ⟨x479, x480, A481, c482, x484, x485, x486, x487, A488, c489, s490, hL_, hM_, H, hle, hk494, ho491, hr483⟩ := h_; rw [hL_, hM_]; clear hL_ hM_ L Ms
        rw [spec_l01Src_l04Ring_l0] at H
        refine at_seq ?_
        refine at_seq ?_
        refine at_reg [] [0, 2, 3, 4, 14] (L2 := [(0, .pointer (some ⟨g21, 0, none⟩)), (2, .pointer (some ⟨g26, 0, none⟩)), (3, .pointer (some ⟨g27, 0, none⟩)), (4, .int .i64 x479), (14, .bool (decide (x479 > 0)))]) (obs := []) (by kernel_rfl) ?_ ?_
        · intro w hs; exact trivial
        refine at_thn ?_
        by_cases h495 : x479 > 0
        · rw [if_pos h495] at H
          refine at_cond_t rfl (decide_eq_true h495) ?_
          refine at_skip ?_
          refine at_thn ?_
          refine at_seq ?_
          refine at_block ?_
          refine at_x hmo (fun w => w.cell? ⟨g27, 0, none⟩ = some (.slice A488 x487.length c489)) [8, 10] ?_
          refine at_xseg [0, 1, 2, 3] 7 (#[true, true, true, true, false, false, false, false, false, false, false]) rfl (by kernel_rfl) [(1, .slice A488 x487.length c489)] [0, 2, 3, 4, 18, 19, 20] (L2 := [(0, .pointer (some ⟨g21, 0, none⟩)), (2, .pointer (some ⟨g26, 0, none⟩)), (3, .pointer (some ⟨g27, 0, none⟩)), (4, .int .i64 x479), (18, .slice A488 x487.length c489), (19, .pointer (some ⟨g21, 0, none⟩)), (20, .pointer (some ⟨g21, 0, none⟩))]) (obs := [fun w => w.cell? ⟨g27, 0, none⟩ = some (.slice A488 x487.length c489)]) (by kernel_rfl) (by kernel_rfl) (by kernel_rfl) (.inr fun w hs => hs.var (k := 2) rfl 0 rfl) (fun w hS => hS) (fun w hs => hs.var (k := 2) rfl 0 rfl) ?_
          refine at_x1 6 4 (#[true, true, true, true, true, false, false, false, false, false, false]) rfl (by kernel_rfl) (by kernel_rfl) rfl rfl ?_
          obtain ⟨b9, H496, H⟩ := bind_some H
          refine eff_call rfl rfl ok63 rfl rfl (show Meets Try.prog 63 ([.pointer (some ⟨g21, 0, none⟩), .int .i64 5] : List Value).toArray _ [[(g21, .cells #[.slice A481 x480.length c482, .int .i64 x484, .int .u64 x485, .int .i64 x486] 82 (0, 0))]] _ from spec_l01Src_n.calls H496 hr483) (Mr := ([(g26, .cells #[.slice none ([] : List (List Int)).length 0, .int .i64 0] 38 (0, 0))] :: [(g27, .cells #[.slice A488 x487.length c489, .int .i64 0] 38 (0, 0))] :: s490 :: Fs)) (List.Perm.refl _) (fun v497 J498 M499 hq500 hJ501 => ?_)
          replace hle := hle.trans hJ501
          replace ho491 := ho491.mono hJ501
          replace hr483 := hr483.mono hJ501
          obtain ⟨A502, c503, rfl, rfl, hr504⟩ := hq500
          refine at_xS (fun w hs => hs.var (k := 2) rfl 0 rfl) ?_
          refine at_xseg [5] 5 (#[true, true, true, true, true, true, false, false, false, false, false]) rfl (by kernel_rfl) [] [0, 2, 3, 4, 18, 19, 22] (L2 := [(0, .pointer (some ⟨g21, 0, none⟩)), (2, .pointer (some ⟨g26, 0, none⟩)), (3, .pointer (some ⟨g27, 0, none⟩)), (4, .int .i64 x479), (18, .slice A488 x487.length c489), (19, .pointer (some ⟨g21, 0, none⟩)), (22, .int .i64 (IntKind.i64.wrap (1 + b9.1)))]) (obs := []) (by kernel_rfl) (by kernel_rfl) (by kernel_rfl) (.inr fun w hs => hs.var (k := 2) rfl 0 rfl) (fun w hS => trivial) (fun w hs => trivial) ?_
          refine at_x1 4 6 (#[true, true, true, true, true, true, true, false, false, false, false]) rfl (by kernel_rfl) (by kernel_rfl) rfl rfl ?_
          obtain ⟨b10, H505, H⟩ := bind_some H
          refine eff_call rfl rfl ok62 rfl rfl (show Meets Try.prog 62 ([.pointer (some ⟨g21, 0, none⟩), .int .i64 (IntKind.i64.wrap (1 + b9.1))] : List Value).toArray _ [[(g21, .cells #[.slice A502 b9.2.b.length c503, .int .i64 b9.2.at_, .int .u64 b9.2.mix, .int .i64 b9.2.size] 82 (0, 0))]] _ from spec_l01Src_points.calls H505 hr504) (Mr := ([(g26, .cells #[.slice none ([] : List (List Int)).length 0, .int .i64 0] 38 (0, 0))] :: [(g27, .cells #[.slice A488 x487.length c489, .int .i64 0] 38 (0, 0))] :: s490 :: Fs)) (List.Perm.refl _) (fun v506 J507 M508 hq509 hJ510 => ?_)
          replace hle := hle.trans hJ510
          replace ho491 := ho491.mono hJ510
          replace hr504 := hr504.mono hJ510
          obtain ⟨A511, c512, s513, A515, c516, rfl, rfl, ho514, hr517⟩ := hq509
          refine at_xS (fun w hs => hs.var (k := 3) rfl 0 rfl) ?_
          refine at_x1 3 7 (#[true, true, true, true, true, true, true, true, false, false, false]) rfl (by kernel_rfl) (by kernel_rfl) rfl rfl ?_
          refine at_freeze (k := 0) rfl rfl (fun J518 hJ519 hin520 => ?_)
          replace hle := hle.trans hJ519
          replace ho491 := ho491.mono hJ519
          replace ho514 := ho514.mono hJ519
          replace hr517 := hr517.mono hJ519
          have hr521 := ho514.rd (ImmLe.refl _) hin520
          refine eff_buildSlice (e := 23) (cells := #[.slice A511 b10.1.length c512]) ([b10.1] : List (List Int)).length rfl rfl rfl (by kernel_rfl) (fun g522 => ?_)
          have ho523 := own_lit (K := (Kd.slice (Kd.int .i64))) (e := 23) (I := J518) (xs := ([b10.1] : List (List Int))) (css := [[.slice A511 b10.1.length c512]]) (cells := #[.slice A511 b10.1.length c512]) (b := g522) ⟨⟨A511, c512, rfl, hr521⟩, trivial⟩ rfl
          refine at_xS (fun w hs => hs.var (k := 3) rfl 0 rfl) ?_
          refine at_x1 2 8 (#[true, true, true, true, true, true, true, true, true, false, false]) rfl (by kernel_rfl) (by kernel_rfl) rfl rfl ?_
          obtain ⟨h524, H⟩ := ite_some H
          obtain ⟨i_, hi_, hz_, hs_, hb_⟩ := info23
          refine eff_append (K := (Kd.slice (Kd.int .i64))) (xs := x487) (ys := ([b10.1] : List (List Int))) 4 rfl rfl rfl rfl rfl und34 und34 hi_ hz_ hs_ rfl rfl rfl ho491 rfl (fun w hs => ho523.rowAt (k := 0) hs rfl) (by rw [hb_]; omega) (by omega) (fun A525 c526 s527 ho528 => ?_)
          refine at_xX (by kernel_rfl) ?_
          refine at_xseg [9] 1 (#[true, true, true, true, true, true, true, true, true, true, false]) rfl (by kernel_rfl) [] [0, 2, 3, 4, 25, 26] (L2 := [(0, .pointer (some ⟨g21, 0, none⟩)), (2, .pointer (some ⟨g26, 0, none⟩)), (3, .pointer (some ⟨g27, 0, none⟩)), (4, .int .i64 x479), (25, .slice A525 (x487 ++ ([b10.1] : List (List Int))).length c526), (26, .pointer (some ⟨g27, 0, none⟩))]) (obs := []) (by kernel_rfl) (by kernel_rfl) (by kernel_rfl) (.inl (by kernel_rfl)) (fun w hS => trivial) (fun w hs => trivial) ?_
          refine at_x1 0 10 (#[true, true, true, true, true, true, true, true, true, true, true]) rfl (by kernel_rfl) (by kernel_rfl) rfl rfl ?_
          refine eff_store 3 rfl rfl rfl rfl rfl rfl (.inl (Nat.le_refl _)) rfl (Nat.le_of_ble_eq_true (by kernel_rfl)) rfl ?_
          refine at_xX (by kernel_rfl) ?_
          refine at_xend (by kernel_rfl) ?_
          refine at_in_norm ?_
          refine at_thn ?_
          refine at_reg [] [0, 2, 3, 4] (L2 := [(0, .pointer (some ⟨g21, 0, none⟩)), (2, .pointer (some ⟨g26, 0, none⟩)), (3, .pointer (some ⟨g27, 0, none⟩)), (4, .int .i64 (IntKind.i64.wrap (x479 - 1)))]) (obs := []) (by kernel_rfl) ?_ ?_
          · intro w hs; exact trivial
          refine at_thn ?_
          refine at_drop (k := 0) rfl rfl ?_
          refine at_keep [0, 2, 3, 4] (L2 := [(0, .pointer (some ⟨g21, 0, none⟩)), (2, .pointer (some ⟨g26, 0, none⟩)), (3, .pointer (some ⟨g27, 0, none⟩)), (4, .int .i64 (IntKind.i64.wrap (x479 - 1)))]) rfl ?_
          exact ih493 _ (by omega) _ _ _ ⟨IntKind.i64.wrap (x479 - 1), b10.2.b, A515, c516, b10.2.at_, b10.2.mix, b10.2.size, (x487 ++ ([b10.1] : List (List Int))), A525, c526, s527, rfl, rfl, H, hle, by omega, ho528, hr517⟩
        · rw [if_neg h495] at H
          refine at_cond_f rfl (decide_eq_false h495) ?_
          refine at_exit ?_
          refine at_then_exit ?_
          refine at_then_exit ?_
          refine at_in_hit ?_
          refine at_thn ?_
          refine at_keep [0, 2, 3] (L2 := [(0, .pointer (some ⟨g21, 0, none⟩)), (2, .pointer (some ⟨g26, 0, none⟩)), (3, .pointer (some ⟨g27, 0, none⟩))]) rfl ?_
          exact Jn148 _ _ _ ⟨_, x480, A481, c482, x484, x485, x486, x487, A488, c489, s490, rfl, rfl, H, hle, by omega, ho491, hr483⟩
  · intro Jn37
    refine at_seq ?_
    refine at_ops [0, 1] rfl ?_
    refine at_seg [0] [1] rfl [] [0, 2, 3, 4, 8] (L2 := [(0, .pointer (some ⟨g21, 0, none⟩)), (2, .pointer (some ⟨g26, 0, none⟩)), (3, .pointer (some ⟨g27, 0, none⟩)), (4, .int .i64 b2.1), (8, .pointer (some ⟨g21, 0, none⟩))]) (obs := []) (by kernel_rfl) ?_ ?_
    · intro w hs; exact trivial
    refine at_eff rfl rfl ?_
    obtain ⟨b11, H529, H⟩ := bind_some H
    refine eff_call rfl rfl ok64 rfl rfl (show Meets Try.prog 64 ([.pointer (some ⟨g21, 0, none⟩), .int .i64 12] : List Value).toArray _ [[(g21, .cells #[.slice A34 b2.2.b.length c35, .int .i64 b2.2.at_, .int .u64 b2.2.mix, .int .i64 b2.2.size] 82 (0, 0))]] _ from spec_l01Src_one.calls H529 hr36) (Mr := ([(g27, .cells #[.slice none ([] : List (List Int)).length 0, .int .i64 0] 38 (0, 0))] :: [(g26, .cells #[.slice none ([] : List (List Int)).length 0, .int .i64 0] 38 (0, 0))] :: Fs)) (List.Perm.refl _) (fun v530 J531 M532 hq533 hJ534 => ?_)
    replace hle := hle.trans hJ534
    replace hr36 := hr36.mono hJ534
    obtain ⟨A535, c536, rfl, rfl, hr537⟩ := hq533
    refine at_end ?_
    refine at_thn ?_
    by_cases h538 : b11.1 = true
    · rw [if_pos h538] at H
      refine at_cond_t rfl (h538) ?_
      refine at_ops [0, 1, 2, 3] rfl ?_
      refine at_seg [0] [1, 2, 3] rfl [] [0, 2, 3, 4, 10] (L2 := [(0, .pointer (some ⟨g21, 0, none⟩)), (2, .pointer (some ⟨g26, 0, none⟩)), (3, .pointer (some ⟨g27, 0, none⟩)), (4, .int .i64 b2.1), (10, .pointer (some ⟨g21, 0, none⟩))]) (obs := []) (by kernel_rfl) ?_ ?_
      · intro w hs; exact trivial
      refine at_eff rfl rfl ?_
      obtain ⟨b12, H539, H⟩ := bind_some H
      refine eff_call rfl rfl ok63 rfl rfl (show Meets Try.prog 63 ([.pointer (some ⟨g21, 0, none⟩), .int .i64 3] : List Value).toArray _ [[(g21, .cells #[.slice A535 b11.2.b.length c536, .int .i64 b11.2.at_, .int .u64 b11.2.mix, .int .i64 b11.2.size] 82 (0, 0))]] _ from spec_l01Src_n.calls H539 hr537) (Mr := ([(g27, .cells #[.slice none ([] : List (List Int)).length 0, .int .i64 0] 38 (0, 0))] :: [(g26, .cells #[.slice none ([] : List (List Int)).length 0, .int .i64 0] 38 (0, 0))] :: Fs)) (List.Perm.refl _) (fun v540 J541 M542 hq543 hJ544 => ?_)
      replace hle := hle.trans hJ544
      replace hr537 := hr537.mono hJ544
      obtain ⟨A545, c546, rfl, rfl, hr547⟩ := hq543
      refine at_seg [2, 3] [] rfl [] [0, 2, 3, 4] (L2 := [(0, .pointer (some ⟨g21, 0, none⟩)), (2, .pointer (some ⟨g26, 0, none⟩)), (3, .pointer (some ⟨g27, 0, none⟩)), (4, .int .i64 (IntKind.i64.wrap (9 + b12.1)))]) (obs := []) (by kernel_rfl) ?_ ?_
      · intro w hs; exact trivial
      refine at_end ?_
      refine at_thn ?_
      refine at_perm (((perm_at (k := 1) rfl).trans ((List.Perm.refl _).cons _)).cons _) ?_
      refine at_keep [0, 2, 3, 4] (L2 := [(0, .pointer (some ⟨g21, 0, none⟩)), (2, .pointer (some ⟨g26, 0, none⟩)), (3, .pointer (some ⟨g27, 0, none⟩)), (4, .int .i64 (IntKind.i64.wrap (9 + b12.1)))]) rfl ?_
      exact Jn37 _ _ _ ⟨_, IntKind.i64.wrap (9 + b12.1), b12.2.b, A545, c546, b12.2.at_, b12.2.mix, b12.2.size, rfl, rfl, H, hle, by omega, hr547⟩
    · rw [if_neg h538] at H
      refine at_cond_f rfl (ff_of h538) ?_
      refine at_skip ?_
      refine at_thn ?_
      refine at_perm (((perm_at (k := 1) rfl).trans ((List.Perm.refl _).cons _)).cons _) ?_
      refine at_keep [0, 2, 3, 4] (L2 := [(0, .pointer (some ⟨g21, 0, none⟩)), (2, .pointer (some ⟨g26, 0, none⟩)), (3, .pointer (some ⟨g27, 0, none⟩)), (4, .int .i64 b2.1)]) rfl ?_
      exact Jn37 _ _ _ ⟨_, b2.1, b11.2.b, A535, c536, b11.2.at_, b11.2.mix, b11.2.size, rfl, rfl, H, hle, by omega, hr537⟩
end Go.Proofs.Ytocfakbgefdgkaa
