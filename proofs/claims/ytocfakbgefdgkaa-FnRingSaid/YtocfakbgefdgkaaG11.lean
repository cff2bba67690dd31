import Derived.Test.YtocfakbgefdgkaaG10
namespace Go.Proofs.Ytocfakbgefdgkaa
open Go Eng
set_option linter.unusedVariables false
set_option linter.unusedSimpArgs false
/-! ### (*loop.example/g00146/spec.l01Src).some: function 54 -/
def spec_l01Src_some_j0 : Nat → (List Int) → (List Int) → Int → Int → Int → Option ((List Int) × T_spec_l01Src)
  | 0, _, _, _, _, _ => none
  | k + 1, x163, x168, x172, x173, x174 => (spec_l01Src_one k (⟨x168, x172, x173, x174⟩ : T_spec_l01Src) 20).bind fun b5 => (if b5.1 = true then ((spec_l01Src_n k b5.2 5).bind fun b6 => (if 0 ≤ b6.1 then (if b6.1 < (([(-1), 55296, 57343, 1114112, 1099511627776] : List Int).length : Int) then (if x163.length + ([rdA 0 ([(-1), 55296, 57343, 1114112, 1099511627776] : List Int) b6.1] : List Int).length ≤ 17592186044416 then (some ((x163 ++ ([rdA 0 ([(-1), 55296, 57343, 1114112, 1099511627776] : List Int) b6.1] : List Int)), b6.2)) else none) else none) else none)) else (some (x163, b5.2)))
def spec_l01Src_some (k : Nat) (p36 : T_spec_l01Src) : Option ((List Int) × T_spec_l01Src) := (spec_l01Src_n k p36 (IntKind.i64.wrap (12 + p36.size))).bind fun b3 => ((spec_l01Src_points k b3.2 b3.1).bind fun b4 => ((spec_l01Src_one k b4.2 50).bind fun b7 => (if b7.1 = true then ((spec_l01Src_n k b7.2 3).bind fun b8 => ((spec_l01Src_points k b8.2 (IntKind.i64.wrap (299 + b8.1))).bind fun b9 => (spec_l01Src_some_j0 k b9.1 b9.2.b b9.2.at_ b9.2.mix b9.2.size))) else (spec_l01Src_some_j0 k b4.1 b7.2.b b7.2.at_ b7.2.mix b7.2.size))))
set_option maxHeartbeats 4000000 in
set_option maxRecDepth 100000 in
theorem spec_l01Src_some.calls {k : Nat} {p36 : T_spec_l01Src} {r : (List Int) × T_spec_l01Src} {I0 : Imm} {g35 : Nat} {A37 : Option Addr} {c38 : Nat} (H : spec_l01Src_some k p36 = some r) (hr39 : Rd (Kd.int .u8) I0 A37 c38 p36.b) :
    Meets Try.prog 54 ([.pointer (some ⟨g35, 0, none⟩)] : List Value).toArray I0 [[(g35, .cells #[.slice A37 p36.b.length c38, .int .i64 p36.at_, .int .u64 p36.mix, .int .i64 p36.size] 82 (0, 0))]] (fun v J M => ∃ (A_1 : Option Addr) (c_2 : Nat) (s_3 : Seg) (A_4 : Option Addr) (c_5 : Nat), v = .slice A_1 r.1.length c_2 ∧ M = [s_3, [(g35, .cells #[.slice A_4 r.2.b.length c_5, .int .i64 r.2.at_, .int .u64 r.2.mix, .int .i64 r.2.size] 82 (0, 0))]] ∧ Own (Kd.int .i64) 2 J A_1 c_2 r.1 s_3 ∧ Rd (Kd.int .u8) J A_4 c_5 r.2.b) := by
  have hle := ImmLe.refl I0
  unfold spec_l01Src_some at H
  refine fn_intro (fn := Try.f54) 31 Try.func54 rfl rfl rfl (fun E Fs => ?_)
  refine at_seq ?_
  refine at_reg [] [0] (L2 := [(0, .pointer (some ⟨g35, 0, none⟩))]) (obs := []) (by kernel_rfl) ?_ ?_
  · intro w hs; exact trivial
  refine at_thn ?_
  refine at_seq ?_
  refine at_ops [0, 1, 2, 3, 4, 5, 6, 7, 8, 9] rfl ?_
  refine at_seg [0, 1, 2, 3, 4, 5, 6] [7, 8, 9] rfl [(5, .int .i64 p36.size)] [0, 4, 5, 10] (L2 := [(0, .pointer (some ⟨g35, 0, none⟩)), (4, .pointer (some ⟨g35, 0, none⟩)), (5, .pointer (some ⟨g35, 0, none⟩)), (10, .int .i64 (IntKind.i64.wrap (12 + p36.size)))]) (obs := [fun w => w.cell? ⟨g35, 3, none⟩ = some (.int .i64 p36.size)]) (by kernel_rfl) ?_ ?_
  · intro w hs; exact hs.var (k := 0) rfl 3 rfl
  refine at_eff rfl rfl ?_
  obtain ⟨b3, H40, H⟩ := bind_some H
  refine eff_call rfl rfl ok63 rfl rfl (show Meets Try.prog 63 ([.pointer (some ⟨g35, 0, none⟩), .int .i64 (IntKind.i64.wrap (12 + p36.size))] : List Value).toArray _ [[(g35, .cells #[.slice A37 p36.b.length c38, .int .i64 p36.at_, .int .u64 p36.mix, .int .i64 p36.size] 82 (0, 0))]] _ from spec_l01Src_n.calls H40 hr39) (Mr := (Fs)) (List.Perm.refl _) (fun v41 J42 M43 hq44 hJ45 => ?_)
  replace hle := hle.trans hJ45
  replace hr39 := hr39.mono hJ45
  obtain ⟨A46, c47, rfl, rfl, hr48⟩ := hq44
  refine at_eff rfl rfl ?_
  obtain ⟨b4, H49, H⟩ := bind_some H
  refine eff_call rfl rfl ok62 rfl rfl (show Meets Try.prog 62 ([.pointer (some ⟨g35, 0, none⟩), .int .i64 b3.1] : List Value).toArray _ [[(g35, .cells #[.slice A46 b3.2.b.length c47, .int .i64 b3.2.at_, .int .u64 b3.2.mix, .int .i64 b3.2.size] 82 (0, 0))]] _ from spec_l01Src_points.calls H49 hr48) (Mr := (Fs)) (List.Perm.refl _) (fun v50 J51 M52 hq53 hJ54 => ?_)
  replace hle := hle.trans hJ54
  replace hr48 := hr48.mono hJ54
  obtain ⟨A55, c56, s57, A59, c60, rfl, rfl, ho58, hr61⟩ := hq53
  refine at_seg [9] [] rfl [] [0, 3] (L2 := [(0, .pointer (some ⟨g35, 0, none⟩)), (3, .slice A55 b4.1.length c56)]) (obs := []) (by kernel_rfl) ?_ ?_
  · intro w hs; exact trivial
  refine at_end ?_
  refine at_thn ?_
  refine at_join (fun L I Ms => ∃ (k175 : Nat), ∃ (x163 : List Int) (A164 : Option Addr) (c165 : Nat) (s166 : Seg) (x168 : List Int) (A169 : Option Addr) (c170 : Nat) (x172 : Int) (x173 : Int) (x174 : Int), L = [(0, .pointer (some ⟨g35, 0, none⟩)), (3, .slice A164 x163.length c165)] ∧ Ms = ([(g35, .cells #[.slice A169 x168.length c170, .int .i64 x172, .int .u64 x173, .int .i64 x174] 82 (0, 0))] :: s166 :: Fs) ∧ spec_l01Src_some_j0 k175 x163 x168 x172 x173 x174 = some r ∧ ImmLe I0 I ∧ k175 ≤ k ∧ Own (Kd.int .i64) 2 I A164 c165 x163 s166 ∧ Rd (Kd.int .u8) I A169 c170 x168) ?_ ?_
  · clear H hle ho58 hr61
    intro L I Ms h_; obtain ⟨k175, x163, A164, c165, s166, x168, A169, c170, x172, x173, x174, hL_, hM_, H, hle, hk176, ho167, hr171⟩ := h_; rw [hL_, hM_]; clear hL_ hM_ L Ms
    rcases k175 with _ | k175
    · exact (no_none H).elim
    rw [spec_l01Src_some_j0] at H
    refine at_seq ?_
    refine at_seq ?_
    refine at_ops [0, 1] rfl ?_
    refine at_seg [0] [1] rfl [] [0, 3, 20] (L2 := [(0, .pointer (some ⟨g35, 0, none⟩)), (3, .slice A164 x163.length c165), (20, .pointer (some ⟨g35, 0, none⟩))]) (obs := []) (by kernel_rfl) ?_ ?_
    · intro w hs; exact trivial
    refine at_eff rfl rfl ?_
    obtain ⟨b5, H177, H⟩ := bind_some H
    refine eff_call rfl rfl ok64 rfl rfl (show Meets Try.prog 64 ([.pointer (some ⟨g35, 0, none⟩), .int .i64 20] : List Value).toArray _ [[(g35, .cells #[.slice A169 x168.length c170, .int .i64 x172, .int .u64 x173, .int .i64 x174] 82 (0, 0))]] _ from spec_l01Src_one.calls H177 hr171) (Mr := (s166 :: Fs)) (List.Perm.refl _) (fun v178 J179 M180 hq181 hJ182 => ?_)
    replace hle := hle.trans hJ182
    replace ho167 := ho167.mono hJ182
    replace hr171 := hr171.mono hJ182
    obtain ⟨A183, c184, rfl, rfl, hr185⟩ := hq181
    refine at_end ?_
    refine at_thn ?_
    by_cases h186 : b5.1 = true
    · rw [if_pos h186] at H
      refine at_cond_t rfl (h186) ?_
      refine at_ops [0, 1, 2, 3, 4, 5, 6, 7, 8] rfl ?_
      refine at_seg [0] [1, 2, 3, 4, 5, 6, 7, 8] rfl [] [0, 3, 22] (L2 := [(0, .pointer (some ⟨g35, 0, none⟩)), (3, .slice A164 x163.length c165), (22, .slice A164 x163.length c165)]) (obs := []) (by kernel_rfl) ?_ ?_
      · intro w hs; exact trivial
      refine at_eff rfl rfl ?_
      refine eff_buildSlice (e := 2) (cells := #[.int .i64 (-1), .int .i64 55296, .int .i64 57343, .int .i64 1114112, .int .i64 1099511627776]) ([(-1), 55296, 57343, 1114112, 1099511627776] : List Int).length rfl rfl rfl (by kernel_rfl) (fun g187 => ?_)
      have ho188 := own_lit (K := (Kd.int .i64)) (e := 2) (I := J179) (xs := ([(-1), 55296, 57343, 1114112, 1099511627776] : List Int)) (css := [[.int .i64 (-1)], [.int .i64 55296], [.int .i64 57343], [.int .i64 1114112], [.int .i64 1099511627776]]) (cells := #[.int .i64 (-1), .int .i64 55296, .int .i64 57343, .int .i64 1114112, .int .i64 1099511627776]) (b := g187) ⟨rfl, ⟨rfl, ⟨rfl, ⟨rfl, ⟨rfl, trivial⟩⟩⟩⟩⟩ rfl
      refine at_seg [2] [3, 4, 5, 6, 7, 8] rfl [] [3, 22, 23, 24] (L2 := [(3, .slice A164 x163.length c165), (22, .slice A164 x163.length c165), (23, .slice (some ⟨g187, 0, none⟩ : Option Addr) ([(-1), 55296, 57343, 1114112, 1099511627776] : List Int).length (([(-1), 55296, 57343, 1114112, 1099511627776] : List Int).length)), (24, .pointer (some ⟨g35, 0, none⟩))]) (obs := []) (by kernel_rfl) ?_ ?_
      · intro w hs; exact trivial
      refine at_eff rfl rfl ?_
      obtain ⟨b6, H189, H⟩ := bind_some H
      refine eff_call rfl rfl ok63 rfl rfl (show Meets Try.prog 63 ([.pointer (some ⟨g35, 0, none⟩), .int .i64 5] : List Value).toArray _ [[(g35, .cells #[.slice A183 b5.2.b.length c184, .int .i64 b5.2.at_, .int .u64 b5.2.mix, .int .i64 b5.2.size] 82 (0, 0))]] _ from spec_l01Src_n.calls H189 hr185) (Mr := ([(g187, .cells #[.int .i64 (-1), .int .i64 55296, .int .i64 57343, .int .i64 1114112, .int .i64 1099511627776] 2 (0, 0))] :: s166 :: Fs)) ((perm_at (k := 1) rfl).trans ((List.Perm.refl _).cons _)) (fun v190 J191 M192 hq193 hJ194 => ?_)
      replace hle := hle.trans hJ194
      replace ho167 := ho167.mono hJ194
      replace ho188 := ho188.mono hJ194
      replace hr185 := hr185.mono hJ194
      obtain ⟨A195, c196, rfl, rfl, hr197⟩ := hq193
      obtain ⟨h198, H⟩ := ite_some H
      obtain ⟨h199, H⟩ := ite_some H
      refine at_seg [4, 5] [6, 7, 8] rfl [(5, .int .i64 (rdA 0 ([(-1), 55296, 57343, 1114112, 1099511627776] : List Int) b6.1))] [3, 22, 27] (L2 := [(3, .slice A164 x163.length c165), (22, .slice A164 x163.length c165), (27, .int .i64 (rdA 0 ([(-1), 55296, 57343, 1114112, 1099511627776] : List Int) b6.1))]) (obs := [fun _ => (some ⟨g187, 0, none⟩ : Option Addr).isSome = true ∧ 0 ≤ b6.1 ∧ b6.1 < ((([(-1), 55296, 57343, 1114112, 1099511627776] : List Int).length : Nat) : Int), fun w => w.cell? (((some ⟨g187, 0, none⟩ : Option Addr).getD ad0).add (b6.1.toNat * 1)) = some (.int .i64 (rdA 0 ([(-1), 55296, 57343, 1114112, 1099511627776] : List Int) b6.1))]) (by kernel_rfl) ?_ ?_
      · intro w hs; exact ⟨⟨ho188.ne b6.1 h198 h199, h198, h199⟩, ho188.one 0 b6.1 h198 h199 hs (k := 1) rfl⟩
      refine at_eff rfl rfl ?_
      refine eff_buildSlice (e := 2) (cells := #[.int .i64 (rdA 0 ([(-1), 55296, 57343, 1114112, 1099511627776] : List Int) b6.1)]) ([rdA 0 ([(-1), 55296, 57343, 1114112, 1099511627776] : List Int) b6.1] : List Int).length rfl rfl rfl (by kernel_rfl) (fun g200 => ?_)
      have ho201 := own_lit (K := (Kd.int .i64)) (e := 2) (I := J191) (xs := ([rdA 0 ([(-1), 55296, 57343, 1114112, 1099511627776] : List Int) b6.1] : List Int)) (css := [[.int .i64 (rdA 0 ([(-1), 55296, 57343, 1114112, 1099511627776] : List Int) b6.1)]]) (cells := #[.int .i64 (rdA 0 ([(-1), 55296, 57343, 1114112, 1099511627776] : List Int) b6.1)]) (b := g200) ⟨rfl, trivial⟩ rfl
      refine at_eff rfl rfl ?_
      obtain ⟨h202, H⟩ := ite_some H
      obtain ⟨i_, hi_, hz_, hs_, hb_⟩ := info2
      refine eff_append (K := (Kd.int .i64)) (xs := x163) (ys := ([rdA 0 ([(-1), 55296, 57343, 1114112, 1099511627776] : List Int) b6.1] : List Int)) 3 rfl rfl rfl rfl rfl und23 und23 hi_ hz_ hs_ rfl rfl rfl ho167 rfl (fun w hs => ho201.rowAt (k := 0) hs rfl) (by rw [hb_]; omega) (by omega) (fun A203 c204 s205 ho206 => ?_)
      refine at_seg [8] [] rfl [] [3] (L2 := [(3, .slice A203 (x163 ++ ([rdA 0 ([(-1), 55296, 57343, 1114112, 1099511627776] : List Int) b6.1] : List Int)).length c204)]) (obs := []) (by kernel_rfl) ?_ ?_
      · intro w hs; exact trivial
      refine at_end ?_
      refine at_thn ?_
      refine at_seq ?_
      refine at_reg [] [2] (L2 := [(2, .slice A203 (x163 ++ ([rdA 0 ([(-1), 55296, 57343, 1114112, 1099511627776] : List Int) b6.1] : List Int)).length c204)]) (obs := []) (by kernel_rfl) ?_ ?_
      · intro w hs; exact trivial
      refine at_thn ?_
      refine at_ret ?_
      obtain rfl := Option.some.inj H
      refine at_drop (k := 0) rfl rfl ?_
      refine at_drop (k := 1) rfl rfl ?_
      refine at_perm ((perm_at (k := 1) rfl).trans ((List.Perm.refl _).cons _)) ?_
      refine at_done (vs := [.slice A203 (x163 ++ ([rdA 0 ([(-1), 55296, 57343, 1114112, 1099511627776] : List Int) b6.1] : List Int)).length c204]) (obs := []) (.inl rfl) [.tmp 2] [] rfl (by kernel_rfl) (fun w hs => trivial) (fun w hs => ⟨_, _, [s205, [(g35, .cells #[.slice A195 b6.2.b.length c196, .int .i64 b6.2.at_, .int .u64 b6.2.mix, .int .i64 b6.2.size] 82 (0, 0))]], rfl, ⟨A203, c204, s205, A195, c196, rfl, rfl, ho206, hr197⟩, hle, hs⟩)
    · rw [if_neg h186] at H
      refine at_cond_f rfl (ff_of h186) ?_
      refine at_skip ?_
      refine at_thn ?_
      refine at_seq ?_
      refine at_reg [] [2] (L2 := [(2, .slice A164 x163.length c165)]) (obs := []) (by kernel_rfl) ?_ ?_
      · intro w hs; exact trivial
      refine at_thn ?_
      refine at_ret ?_
      obtain rfl := Option.some.inj H
      refine at_perm ((perm_at (k := 1) rfl).trans ((List.Perm.refl _).cons _)) ?_
      refine at_done (vs := [.slice A164 x163.length c165]) (obs := []) (.inl rfl) [.tmp 2] [] rfl (by kernel_rfl) (fun w hs => trivial) (fun w hs => ⟨_, _, [s166, [(g35, .cells #[.slice A183 b5.2.b.length c184, .int .i64 b5.2.at_, .int .u64 b5.2.mix, .int .i64 b5.2.size] 82 (0, 0))]], rfl, ⟨A164, c165, s166, A183, c184, rfl, rfl, ho167, hr185⟩, hle, hs⟩)
  · intro Jn62
    refine at_seq ?_
    refine at_ops [0, 1] rfl ?_
    refine at_seg [0] [1] rfl [] [0, 3, 13] (L2 := [(0, .pointer (some ⟨g35, 0, none⟩)), (3, .slice A55 b4.1.length c56), (13, .pointer (some ⟨g35, 0, none⟩))]) (obs := []) (by kernel_rfl) ?_ ?_
    · intro w hs; exact trivial
    refine at_eff rfl rfl ?_
    obtain ⟨b7, H207, H⟩ := bind_some H
    refine eff_call rfl rfl ok64 rfl rfl (show Meets Try.prog 64 ([.pointer (some ⟨g35, 0, none⟩), .int .i64 50] : List Value).toArray _ [[(g35, .cells #[.slice A59 b4.2.b.length c60, .int .i64 b4.2.at_, .int .u64 b4.2.mix, .int .i64 b4.2.size] 82 (0, 0))]] _ from spec_l01Src_one.calls H207 hr61) (Mr := (s57 :: Fs)) ((perm_at (k := 1) rfl).trans ((List.Perm.refl _).cons _)) (fun v208 J209 M210 hq211 hJ212 => ?_)
    replace hle := hle.trans hJ212
    replace ho58 := ho58.mono hJ212
    replace hr61 := hr61.mono hJ212
    obtain ⟨A213, c214, rfl, rfl, hr215⟩ := hq211
    refine at_end ?_
    refine at_thn ?_
    by_cases h216 : b7.1 = true
    · rw [if_pos h216] at H
      refine at_cond_t rfl (h216) ?_
      refine at_ops [0, 1, 2, 3, 4, 5] rfl ?_
      refine at_seg [0, 1] [2, 3, 4, 5] rfl [] [0, 3, 15, 16] (L2 := [(0, .pointer (some ⟨g35, 0, none⟩)), (3, .slice A55 b4.1.length c56), (15, .pointer (some ⟨g35, 0, none⟩)), (16, .pointer (some ⟨g35, 0, none⟩))]) (obs := []) (by kernel_rfl) ?_ ?_
      · intro w hs; exact trivial
      refine at_eff rfl rfl ?_
      obtain ⟨b8, H217, H⟩ := bind_some H
      refine eff_call rfl rfl ok63 rfl rfl (show Meets Try.prog 63 ([.pointer (some ⟨g35, 0, none⟩), .int .i64 3] : List Value).toArray _ [[(g35, .cells #[.slice A213 b7.2.b.length c214, .int .i64 b7.2.at_, .int .u64 b7.2.mix, .int .i64 b7.2.size] 82 (0, 0))]] _ from spec_l01Src_n.calls H217 hr215) (Mr := (s57 :: Fs)) (List.Perm.refl _) (fun v218 J219 M220 hq221 hJ222 => ?_)
      replace hle := hle.trans hJ222
      replace ho58 := ho58.mono hJ222
      replace hr215 := hr215.mono hJ222
      obtain ⟨A223, c224, rfl, rfl, hr225⟩ := hq221
      refine at_seg [3] [4, 5] rfl [] [0, 3, 15, 18] (L2 := [(0, .pointer (some ⟨g35, 0, none⟩)), (3, .slice A55 b4.1.length c56), (15, .pointer (some ⟨g35, 0, none⟩)), (18, .int .i64 (IntKind.i64.wrap (299 + b8.1)))]) (obs := []) (by kernel_rfl) ?_ ?_
      · intro w hs; exact trivial
      refine at_eff rfl rfl ?_
      obtain ⟨b9, H226, H⟩ := bind_some H
      refine eff_call rfl rfl ok62 rfl rfl (show Meets Try.prog 62 ([.pointer (some ⟨g35, 0, none⟩), .int .i64 (IntKind.i64.wrap (299 + b8.1))] : List Value).toArray _ [[(g35, .cells #[.slice A223 b8.2.b.length c224, .int .i64 b8.2.at_, .int .u64 b8.2.mix, .int .i64 b8.2.size] 82 (0, 0))]] _ from spec_l01Src_points.calls H226 hr225) (Mr := (s57 :: Fs)) (List.Perm.refl _) (fun v227 J228 M229 hq230 hJ231 => ?_)
      replace hle := hle.trans hJ231
      replace ho58 := ho58.mono hJ231
      replace hr225 := hr225.mono hJ231
      obtain ⟨A232, c233, s234, A236, c237, rfl, rfl, ho235, hr238⟩ := hq230
      refine at_seg [5] [] rfl [] [0, 3] (L2 := [(0, .pointer (some ⟨g35, 0, none⟩)), (3, .slice A232 b9.1.length c233)]) (obs := []) (by kernel_rfl) ?_ ?_
      · intro w hs; exact trivial
      refine at_end ?_
      refine at_thn ?_
      refine at_drop (k := 2) rfl rfl ?_
      refine at_perm ((perm_at (k := 1) rfl).trans ((List.Perm.refl _).cons _)) ?_
      refine at_keep [0, 3] (L2 := [(0, .pointer (some ⟨g35, 0, none⟩)), (3, .slice A232 b9.1.length c233)]) rfl ?_
      exact Jn62 _ _ _ ⟨_, b9.1, A232, c233, s234, b9.2.b, A236, c237, b9.2.at_, b9.2.mix, b9.2.size, rfl, rfl, H, hle, by omega, ho235, hr238⟩
    · rw [if_neg h216] at H
      refine at_cond_f rfl (ff_of h216) ?_
      refine at_skip ?_
      refine at_thn ?_
      refine at_keep [0, 3] (L2 := [(0, .pointer (some ⟨g35, 0, none⟩)), (3, .slice A55 b4.1.length c56)]) rfl ?_
      exact Jn62 _ _ _ ⟨_, b4.1, A55, c56, s57, b7.2.b, A213, c214, b7.2.at_, b7.2.mix, b7.2.size, rfl, rfl, H, hle, by omega, ho58, hr215⟩

/-! ### loop.example/g00146/spec.DrawRingPush: function 22 -/
def spec_DrawRingPush (k : Nat) (p6 : List Int) : Option (T_impl_Ring × (List Int)) := (spec_l01Source k p6).bind fun b1 => ((spec_l01Src_l04Ring k b1).bind fun b2 => ((spec_l01Src_some k b2.2).bind fun b3 => (some ((⟨b2.1.Items, b2.1.At⟩ : T_impl_Ring), b3.1))))
set_option maxHeartbeats 4000000 in
set_option maxRecDepth 100000 in
theorem spec_DrawRingPush.calls {k : Nat} {p6 : List Int} {r : T_impl_Ring × (List Int)} {I0 : Imm} {A7 : Option Addr} {c8 : Nat} (H : spec_DrawRingPush k p6 = some r) (hr9 : Rd (Kd.int .u8) I0 A7 c8 p6) :
    Meets Try.prog 22 ([.slice A7 p6.length c8] : List Value).toArray I0 [] (fun v J M => ∃ (A_1 : Option Addr) (c_2 : Nat) (s_3 : Seg) (A_4 : Option Addr) (c_5 : Nat) (s_6 : Seg), v = .tuple #[.agg #[.slice A_1 r.1.Items.length c_2, .int .i64 r.1.At], .slice A_4 r.2.length c_5] ∧ M = [s_3, s_6] ∧ Own (Kd.slice (Kd.int .i64)) 23 J A_1 c_2 r.1.Items s_3 ∧ Own (Kd.int .i64) 2 J A_4 c_5 r.2 s_6) := by
  have hle := ImmLe.refl I0
  unfold spec_DrawRingPush at H
  refine fn_intro (fn := Try.f22) 13 Try.func22 rfl rfl rfl (fun E Fs => ?_)
  refine at_seq ?_
  refine at_ops [0, 1] rfl ?_
  refine at_eff rfl rfl ?_
  obtain ⟨i_, hi_, hz_, _, _⟩ := info38
  refine eff_alloc rfl rfl hi_ hz_ #[.slice none ([] : List (List Int)).length 0, .int .i64 0] rfl (fun g10 => ?_)
  refine at_seg [1] [] rfl [] [0, 2] (L2 := [(0, .slice A7 p6.length c8), (2, .pointer (some ⟨g10, 0, none⟩))]) (obs := []) (by kernel_rfl) ?_ ?_
  · intro w hs; exact trivial
  refine at_end ?_
  refine at_thn ?_
  refine at_seq ?_
  refine at_ops [0, 1, 2] rfl ?_
  refine at_seg [0] [1, 2] rfl [] [2, 6] (L2 := [(2, .pointer (some ⟨g10, 0, none⟩)), (6, .slice A7 p6.length c8)]) (obs := []) (by kernel_rfl) ?_ ?_
  · intro w hs; exact trivial
  refine at_eff rfl rfl ?_
  obtain ⟨b1, H11, H⟩ := bind_some H
  have hm_ := spec_l01Source.calls (I0 := I0) H11 hr9
  refine eff_call rfl rfl ok30 rfl rfl (show Meets Try.prog 30 ([.slice A7 p6.length c8] : List Value).toArray _ [] _ from hm_) (Mr := ([(g10, .cells #[.slice none ([] : List (List Int)).length 0, .int .i64 0] 38 (0, 0))] :: Fs)) (List.Perm.refl _) (fun v12 J13 M14 hq15 hJ16 => ?_)
  replace hle := hle.trans hJ16
  replace hr9 := hr9.mono hJ16
  obtain ⟨g17, A18, c19, rfl, rfl, hr20⟩ := hq15
  refine at_seg [2] [] rfl [] [2, 4] (L2 := [(2, .pointer (some ⟨g10, 0, none⟩)), (4, .pointer (some ⟨g17, 0, none⟩))]) (obs := []) (by kernel_rfl) ?_ ?_
  · intro w hs; exact trivial
  refine at_end ?_
  refine at_thn ?_
  refine at_seq ?_
  refine at_ops [0, 1, 2, 3] rfl ?_
  refine at_seg [0] [1, 2, 3] rfl [] [2, 4, 8] (L2 := [(2, .pointer (some ⟨g10, 0, none⟩)), (4, .pointer (some ⟨g17, 0, none⟩)), (8, .pointer (some ⟨g17, 0, none⟩))]) (obs := []) (by kernel_rfl) ?_ ?_
  · intro w hs; exact trivial
  refine at_eff rfl rfl ?_
  obtain ⟨b2, H21, H⟩ := bind_some H
  refine eff_call rfl rfl ok53 rfl rfl (show Meets Try.prog 53 ([.pointer (some ⟨g17, 0, none⟩)] : List Value).toArray _ [[(g17, .cells #[.slice A18 b1.b.length c19, .int .i64 b1.at_, .int .u64 b1.mix, .int .i64 b1.size] 82 (0, 0))]] _ from spec_l01Src_l04Ring.calls H21 hr20) (Mr := ([(g10, .cells #[.slice none ([] : List (List Int)).length 0, .int .i64 0] 38 (0, 0))] :: Fs)) (List.Perm.refl _) (fun v22 J23 M24 hq25 hJ26 => ?_)
  replace hle := hle.trans hJ26
  replace hr20 := hr20.mono hJ26
  obtain ⟨A27, c28, s29, A31, c32, rfl, rfl, ho30, hr33⟩ := hq25
  refine at_eff rfl rfl ?_
  obtain ⟨i_, hi_, hz_, _, _⟩ := info38
  refine eff_alloc rfl rfl hi_ hz_ #[.slice none ([] : List (List Int)).length 0, .int .i64 0] rfl (fun g34 => ?_)
  refine at_eff rfl rfl ?_
  refine eff_store 0 rfl rfl rfl rfl rfl rfl (.inl (Nat.le_refl _)) rfl (Nat.le_of_ble_eq_true (by kernel_rfl)) rfl ?_
  refine at_end ?_
  refine at_thn ?_
  refine at_seq ?_
  refine at_x hmo (fun w => CellsAt w ⟨g34, 0, none⟩ [.slice A27 b2.1.Items.length c28, .int .i64 b2.1.At] 0) [3] ?_
  refine at_xseg [0, 1] 3 (#[true, true, false, false, false]) rfl (by kernel_rfl) [(0, .agg #[.slice A27 b2.1.Items.length c28, .int .i64 b2.1.At])] [2, 10, 11] (L2 := [(2, .pointer (some ⟨g10, 0, none⟩)), (10, .agg #[.slice A27 b2.1.Items.length c28, .int .i64 b2.1.At]), (11, .pointer (some ⟨g17, 0, none⟩))]) (obs := [fun w => CellsAt w ⟨g34, 0, none⟩ [.slice A27 b2.1.Items.length c28, .int .i64 b2.1.At] 0]) (by kernel_rfl) (by kernel_rfl) (by kernel_rfl) (.inr fun w hs => cellsV (k := 0) hs rfl _ 0 (Nat.le_of_ble_eq_true (by kernel_rfl)) rfl) (fun w hS => hS) (fun w hs => cellsV (k := 0) hs rfl _ 0 (Nat.le_of_ble_eq_true (by kernel_rfl)) rfl) ?_
  refine at_x1 2 2 (#[true, true, true, false, false]) rfl (by kernel_rfl) (by kernel_rfl) rfl rfl ?_
  obtain ⟨b3, H35, H⟩ := bind_some H
  refine eff_call rfl rfl ok54 rfl rfl (show Meets Try.prog 54 ([.pointer (some ⟨g17, 0, none⟩)] : List Value).toArray _ [[(g17, .cells #[.slice A31 b2.2.b.length c32, .int .i64 b2.2.at_, .int .u64 b2.2.mix, .int .i64 b2.2.size] 82 (0, 0))]] _ from spec_l01Src_some.calls H35 hr33) (Mr := ([(g34, .cells #[.slice A27 b2.1.Items.length c28, .int .i64 b2.1.At] 38 (0, 0))] :: s29 :: [(g10, .cells #[.slice none ([] : List (List Int)).length 0, .int .i64 0] 38 (0, 0))] :: Fs)) ((perm_at (k := 2) rfl).trans ((List.Perm.refl _).cons _)) (fun v36 J37 M38 hq39 hJ40 => ?_)
  replace hle := hle.trans hJ40
  replace ho30 := ho30.mono hJ40
  replace hr33 := hr33.mono hJ40
  obtain ⟨A41, c42, s43, A45, c46, rfl, rfl, ho44, hr47⟩ := hq39
  refine at_xS (fun w hs => cellsV (k := 2) hs rfl _ 0 (Nat.le_of_ble_eq_true (by kernel_rfl)) rfl) ?_
  refine at_x1 1 3 (#[true, true, true, true, false]) rfl (by kernel_rfl) (by kernel_rfl) rfl rfl ?_
  refine eff_store 4 rfl rfl rfl rfl rfl rfl (.inl (Nat.le_refl _)) rfl (Nat.le_of_ble_eq_true (by kernel_rfl)) rfl ?_
  refine at_xX (by kernel_rfl) ?_
  refine at_xseg [4] 0 (#[true, true, true, true, true]) rfl (by kernel_rfl) [] [2, 3] (L2 := [(2, .pointer (some ⟨g10, 0, none⟩)), (3, .slice A41 b3.1.length c42)]) (obs := []) (by kernel_rfl) (by kernel_rfl) (by kernel_rfl) (.inl (by kernel_rfl)) (fun w hS => trivial) (fun w hs => trivial) ?_
  refine at_xend (by kernel_rfl) ?_
  refine at_thn ?_
  refine at_ret ?_
  obtain rfl := Option.some.inj H
  refine at_drop (k := 1) rfl rfl ?_
  refine at_drop (k := 1) rfl rfl ?_
  refine at_perm ((perm_at (k := 1) rfl).trans ((List.Perm.refl _).cons _)) ?_
  refine at_done (vs := [.agg #[.slice A27 b2.1.Items.length c28, .int .i64 b2.1.At], .slice A41 b3.1.length c42]) (obs := [fun w => CellsAt w ⟨g10, 0, none⟩ [.slice A27 b2.1.Items.length c28, .int .i64 b2.1.At] 0]) (.inl rfl) [.cell 2 38, .tmp 3] [(2, .agg #[.slice A27 b2.1.Items.length c28, .int .i64 b2.1.At])] rfl (by kernel_rfl) (fun w hs => cellsV (k := 2) hs rfl _ 0 (Nat.le_of_ble_eq_true (by kernel_rfl)) rfl) (fun w hs => ⟨_, _, [s29, s43], rfl, ⟨A27, c28, s29, A41, c42, s43, rfl, rfl, ho30, ho44⟩, hle, (hs.tail (perm_at (k := 2) rfl))⟩)

/-! ### loop.example/g00146/laws.lwSame: function 27 -/
def laws_lwSame_l0 : Nat → Int → (List Int) → (List Int) → Option Bool
  | 0, _, _, _ => none
  | k + 1, x84, p75, p79 => if x84 < (p75.length : Int) then (if 0 ≤ x84 then (if x84 < (p79.length : Int) then (if (rdA 0 p75 x84) = (rdA 0 p79 x84) then (laws_lwSame_l0 k (IntKind.i64.wrap (x84 + 1)) p75 p79) else (some false)) else none) else none) else (some true)
def laws_lwSame (k : Nat) (p75 : List Int) (p79 : List Int) : Option Bool := if (p75.length : Int) = (p79.length : Int) then (laws_lwSame_l0 k 0 p75 p79) else (some false)
set_option maxHeartbeats 4000000 in
set_option maxRecDepth 100000 in
theorem laws_lwSame.calls {k : Nat} {p75 : List Int} {p79 : List Int} {r : Bool} {I0 : Imm} {A76 : Option Addr} {c77 : Nat} {A80 : Option Addr} {c81 : Nat} (H : laws_lwSame k p75 p79 = some r) (hr78 : Rd (Kd.int .i64) I0 A76 c77 p75) (hr82 : Rd (Kd.int .i64) I0 A80 c81 p79) :
    Meets Try.prog 27 ([.slice A76 p75.length c77, .slice A80 p79.length c81] : List Value).toArray I0 [] (fun v J M => v = .bool r ∧ M = []) := by
  have hle := ImmLe.refl I0
  unfold laws_lwSame at H
  refine fn_intro (fn := Try.f27) 26 Try.func27 rfl rfl rfl (fun E Fs => ?_)
  refine at_seq ?_
  refine at_reg [] [0, 1] (L2 := [(0, .slice A76 p75.length c77), (1, .slice A80 p79.length c81)]) (obs := []) (by kernel_rfl) ?_ ?_
  · intro w hs; exact trivial
  refine at_thn ?_
  refine at_seq ?_
  refine at_seq ?_
  refine at_reg [] [0, 1, 10] (L2 := [(0, .slice A76 p75.length c77), (1, .slice A80 p79.length c81), (10, .bool ((p75.length : Int) != (p79.length : Int)))]) (obs := []) (by kernel_rfl) ?_ ?_
  · intro w hs; exact trivial
  refine at_thn ?_
  by_cases h83 : (p75.length : Int) = (p79.length : Int)
  · rw [if_pos h83] at H
    refine at_cond_f rfl (bne_eq_false_iff_eq.2 h83) ?_
    refine at_skip ?_
    refine at_thn ?_
    refine at_seq ?_
    refine at_seq ?_
    refine at_reg [] [0, 1, 5] (L2 := [(0, .slice A76 p75.length c77), (1, .slice A80 p79.length c81), (5, .int .i64 0)]) (obs := []) (by kernel_rfl) ?_ ?_
    · intro w hs; exact trivial
    refine at_thn ?_
    refine at_block ?_
    refine at_keep [0, 1, 5] (L2 := [(0, .slice A76 p75.length c77), (1, .slice A80 p79.length c81), (5, .int .i64 0)]) rfl ?_
    refine at_loop (fun k85 L I Ms => ∃ (x84 : Int), L = [(0, .slice A76 p75.length c77), (1, .slice A80 p79.length c81), (5, .int .i64 x84)] ∧ Ms = ([] ++ Fs) ∧ laws_lwSame_l0 k85 x84 p75 p79 = some r ∧ ImmLe I0 I ∧ k85 ≤ k ∧ Rd (Kd.int .i64) I A76 c77 p75 ∧ Rd (Kd.int .i64) I A80 c81 p79) ?_ ?_ k ⟨0, rfl, rfl, H, hle, Nat.le_refl _, hr78, hr82⟩
    · rintro L I Ms ⟨_, rfl, rfl, H, _⟩; exact no_none H
    · clear H hle hr78 hr82
      intro k85 ih86 L I Ms h_; obtain ⟨x84, hL_, hM_, H, hle, hk87, hr78, hr82⟩ := h_; rw [hL_, hM_]; clear hL_ hM_ L Ms
      rw [laws_lwSame_l0] at H
      refine at_seq ?_
      refine at_seq ?_
      refine at_reg [] [0, 1, 5, 14] (L2 := [(0, .slice A76 p75.length c77), (1, .slice A80 p79.length c81), (5, .int .i64 x84), (14, .bool (decide (x84 < (p75.length : Int))))]) (obs := []) (by kernel_rfl) ?_ ?_
      · intro w hs; exact trivial
      refine at_thn ?_
      by_cases h88 : x84 < (p75.length : Int)
      · rw [if_pos h88] at H
        refine at_cond_t rfl (decide_eq_true h88) ?_
        refine at_skip ?_
        refine at_thn ?_
        refine at_seq ?_
        refine at_block ?_
        refine at_seq ?_
        obtain ⟨h89, H⟩ := ite_some H
        obtain ⟨h90, H⟩ := ite_some H
        refine at_regd hmo [(3, .int .i64 (rdA 0 p75 x84)), (7, .int .i64 (rdA 0 p79 x84))] [0, 1, 5, 25] (by kernel_rfl) (L2 := [(0, .slice A76 p75.length c77), (1, .slice A80 p79.length c81), (5, .int .i64 x84), (25, .bool ((rdA 0 p75 x84) != (rdA 0 p79 x84)))]) (obs := [fun _ => A76.isSome = true ∧ 0 ≤ x84 ∧ x84 < ((p75.length : Nat) : Int), fun w => w.cell? ((A76.getD ad0).add (x84.toNat * 1)) = some (.int .i64 (rdA 0 p75 x84)), fun _ => A80.isSome = true ∧ 0 ≤ x84 ∧ x84 < ((p79.length : Nat) : Int), fun w => w.cell? ((A80.getD ad0).add (x84.toNat * 1)) = some (.int .i64 (rdA 0 p79 x84))]) (by kernel_rfl) ?_ ?_
        · intro w hs; exact ⟨⟨hr78.ne x84 h89 h88, h89, h88⟩, hr78.one 0 x84 h89 h88 hs, ⟨hr82.ne x84 h89 h90, h89, h90⟩, hr82.one 0 x84 h89 h90 hs⟩
        refine at_thn ?_
        by_cases h91 : (rdA 0 p75 x84) = (rdA 0 p79 x84)
        · rw [if_pos h91] at H
          refine at_cond_f rfl (bne_eq_false_iff_eq.2 h91) ?_
          refine at_skip ?_
          refine at_in_norm ?_
          refine at_thn ?_
          refine at_reg [] [0, 1, 5] (L2 := [(0, .slice A76 p75.length c77), (1, .slice A80 p79.length c81), (5, .int .i64 (IntKind.i64.wrap (x84 + 1)))]) (obs := []) (by kernel_rfl) ?_ ?_
          · intro w hs; exact trivial
          refine at_thn ?_
          refine at_keep [0, 1, 5] (L2 := [(0, .slice A76 p75.length c77), (1, .slice A80 p79.length c81), (5, .int .i64 (IntKind.i64.wrap (x84 + 1)))]) rfl ?_
          exact ih86 _ (by omega) _ _ _ ⟨IntKind.i64.wrap (x84 + 1), rfl, rfl, H, hle, by omega, hr78, hr82⟩
        · rw [if_neg h91] at H
          refine at_cond_t rfl (bne_iff_ne.2 h91) ?_
          refine at_seq ?_
          refine at_reg [] [4] (L2 := [(4, .bool false)]) (obs := []) (by kernel_rfl) ?_ ?_
          · intro w hs; exact trivial
          refine at_thn ?_
          refine at_ret ?_
          refine at_in_ret ?_
          refine at_then_ret ?_
          refine at_then_ret ?_
          refine at_in_ret ?_
          refine at_then_ret ?_
          obtain rfl := Option.some.inj H
          refine at_done (vs := [.bool false]) (obs := []) (.inl rfl) [.tmp 4] [] rfl (by kernel_rfl) (fun w hs => trivial) (fun w hs => ⟨_, _, [], rfl, ⟨rfl, rfl⟩, hle, hs⟩)
      · rw [if_neg h88] at H
        refine at_cond_f rfl (decide_eq_false h88) ?_
        refine at_exit ?_
        refine at_then_exit ?_
        refine at_then_exit ?_
        refine at_in_hit ?_
        refine at_thn ?_
        refine at_seq ?_
        refine at_reg [] [4] (L2 := [(4, .bool true)]) (obs := []) (by kernel_rfl) ?_ ?_
        · intro w hs; exact trivial
        refine at_thn ?_
        refine at_ret ?_
        obtain rfl := Option.some.inj H
        refine at_done (vs := [.bool true]) (obs := []) (.inl rfl) [.tmp 4] [] rfl (by kernel_rfl) (fun w hs => trivial) (fun w hs => ⟨_, _, [], rfl, ⟨rfl, rfl⟩, hle, hs⟩)
  · rw [if_neg h83] at H
    refine at_cond_t rfl (bne_iff_ne.2 h83) ?_
    refine at_seq ?_
    refine at_reg [] [4] (L2 := [(4, .bool false)]) (obs := []) (by kernel_rfl) ?_ ?_
    · intro w hs; exact trivial
    refine at_thn ?_
    refine at_ret ?_
    refine at_then_ret ?_
    obtain rfl := Option.some.inj H
    refine at_done (vs := [.bool false]) (obs := []) (.inl rfl) [.tmp 4] [] rfl (by kernel_rfl) (fun w hs => trivial) (fun w hs => ⟨_, _, [], rfl, ⟨rfl, rfl⟩, hle, hs⟩)

/-! ### loop.example/g00146/laws.lwLists: function 55 -/
def laws_lwLists_l0 : Nat → Int → (List (List Int)) → (List (List Int)) → Option Bool
  | 0, _, _, _ => none
  | k + 1, x60, p51, p55 => if x60 < (p51.length : Int) then (if 0 ≤ x60 then (if x60 < (p55.length : Int) then ((laws_lwSame k (rdA [] p51 x60) (rdA [] p55 x60)).bind fun b3 => (if b3 = true then (laws_lwLists_l0 k (IntKind.i64.wrap (x60 + 1)) p51 p55) else (some false))) else none) else none) else (some true)
def laws_lwLists (k : Nat) (p51 : List (List Int)) (p55 : List (List Int)) : Option Bool := if (p51.length : Int) = (p55.length : Int) then (laws_lwLists_l0 k 0 p51 p55) else (some false)
set_option maxHeartbeats 4000000 in
set_option maxRecDepth 100000 in
theorem laws_lwLists.calls {k : Nat} {p51 : List (List Int)} {p55 : List (List Int)} {r : Bool} {I0 : Imm} {A52 : Option Addr} {c53 : Nat} {A56 : Option Addr} {c57 : Nat} (H : laws_lwLists k p51 p55 = some r) (hr54 : Rd (Kd.slice (Kd.int .i64)) I0 A52 c53 p51) (hr58 : Rd (Kd.slice (Kd.int .i64)) I0 A56 c57 p55) :
    Meets Try.prog 55 ([.slice A52 p51.length c53, .slice A56 p55.length c57] : List Value).toArray I0 [] (fun v J M => v = .bool r ∧ M = []) := by
  have hle := ImmLe.refl I0
  unfold laws_lwLists at H
  refine fn_intro (fn := Try.f55) 27 Try.func55 rfl rfl rfl (fun E Fs => ?_)
  refine at_seq ?_
  refine at_reg [] [0, 1] (L2 := [(0, .slice A52 p51.length c53), (1, .slice A56 p55.length c57)]) (obs := []) (by kernel_rfl) ?_ ?_
  · intro w hs; exact trivial
  refine at_thn ?_
  refine at_seq ?_
  refine at_seq ?_
  refine at_reg [] [0, 1, 10] (L2 := [(0, .slice A52 p51.length c53), (1, .slice A56 p55.length c57), (10, .bool ((p51.length : Int) != (p55.length : Int)))]) (obs := []) (by kernel_rfl) ?_ ?_
  · intro w hs; exact trivial
  refine at_thn ?_
  by_cases h59 : (p51.length : Int) = (p55.length : Int)
  · rw [if_pos h59] at H
    refine at_cond_f rfl (bne_eq_false_iff_eq.2 h59) ?_
    refine at_skip ?_
    refine at_thn ?_
    refine at_seq ?_
    refine at_seq ?_
    refine at_reg [] [0, 1, 5] (L2 := [(0, .slice A52 p51.length c53), (1, .slice A56 p55.length c57), (5, .int .i64 0)]) (obs := []) (by kernel_rfl) ?_ ?_
    · intro w hs; exact trivial
    refine at_thn ?_
    refine at_block ?_
    refine at_keep [0, 1, 5] (L2 := [(0, .slice A52 p51.length c53), (1, .slice A56 p55.length c57), (5, .int .i64 0)]) rfl ?_
    refine at_loop (fun k61 L I Ms => ∃ (x60 : Int), L = [(0, .slice A52 p51.length c53), (1, .slice A56 p55.length c57), (5, .int .i64 x60)] ∧ Ms = ([] ++ Fs) ∧ laws_lwLists_l0 k61 x60 p51 p55 = some r ∧ ImmLe I0 I ∧ k61 ≤ k ∧ Rd (Kd.slice (Kd.int .i64)) I A52 c53 p51 ∧ Rd (Kd.slice (Kd.int .i64)) I A56 c57 p55) ?_ ?_ k ⟨0, rfl, rfl, H, hle, Nat.le_refl _, hr54, hr58⟩
    · rintro L I Ms ⟨_, rfl, rfl, H, _⟩; exact no_none H
    · clear H hle hr54 hr58
      intro k61 ih62 L I Ms h_; obtain ⟨x60, hL_, hM_, H, hle, hk63, hr54, hr58⟩ := h_; rw [hL_, hM_]; clear hL_ hM_ L Ms
      rw [laws_lwLists_l0] at H
      refine at_seq ?_
      refine at_seq ?_
      refine at_reg [] [0, 1, 5, 14] (L2 := [(0, .slice A52 p51.length c53), (1, .slice A56 p55.length c57), (5, .int .i64 x60), (14, .bool (decide (x60 < (p51.length : Int))))]) (obs := []) (by kernel_rfl) ?_ ?_
      · intro w hs; exact trivial
      refine at_thn ?_
      by_cases h64 : x60 < (p51.length : Int)
      · rw [if_pos h64] at H
        refine at_cond_t rfl (decide_eq_true h64) ?_
        refine at_skip ?_
        refine at_thn ?_
        refine at_seq ?_
        refine at_block ?_
        refine at_seq ?_
        obtain ⟨h65, H⟩ := ite_some H
        obtain ⟨h72, H⟩ := ite_some H
        obtain ⟨cs70, hz71, hc66⟩ := hr54.elem [] x60 h65 h64
        obtain ⟨A67, c68, rfl, hr69⟩ := hz71
        obtain ⟨cs77, hz78, hc73⟩ := hr58.elem [] x60 h65 h72
        obtain ⟨A74, c75, rfl, hr76⟩ := hz78
        refine at_x hmo (fun w => w.cell? ((A52.getD ad0).add (x60.toNat * 1)) = some (.slice A67 (rdA [] p51 x60).length c68) ∧ w.cell? ((A56.getD ad0).add (x60.toNat * 1)) = some (.slice A74 (rdA [] p55 x60).length c75)) [] ?_
        refine at_xseg [0, 1, 2, 3, 4, 5, 6, 7] 2 (#[true, true, true, true, true, true, true, true, false, false]) rfl (by kernel_rfl) [(3, .slice A67 (rdA [] p51 x60).length c68), (7, .slice A74 (rdA [] p55 x60).length c75)] [0, 1, 5, 20, 24] (L2 := [(0, .slice A52 p51.length c53), (1, .slice A56 p55.length c57), (5, .int .i64 x60), (20, .slice A67 (rdA [] p51 x60).length c68), (24, .slice A74 (rdA [] p55 x60).length c75)]) (obs := [fun _ => A52.isSome = true ∧ 0 ≤ x60 ∧ x60 < ((p51.length : Nat) : Int), fun w => w.cell? ((A52.getD ad0).add (x60.toNat * 1)) = some (.slice A67 (rdA [] p51 x60).length c68), fun _ => A56.isSome = true ∧ 0 ≤ x60 ∧ x60 < ((p55.length : Nat) : Int), fun w => w.cell? ((A56.getD ad0).add (x60.toNat * 1)) = some (.slice A74 (rdA [] p55 x60).length c75)]) (by kernel_rfl) (by kernel_rfl) (by kernel_rfl) (.inr fun w hs => ⟨cell0 (hc66 0 _ rfl hs), cell0 (hc73 0 _ rfl hs)⟩) (fun w hS => ⟨⟨hr54.ne x60 h65 h64, h65, h64⟩, hS.1, ⟨hr58.ne x60 h65 h72, h65, h72⟩, hS.2⟩) (fun w hs => ⟨⟨hr54.ne x60 h65 h64, h65, h64⟩, cell0 (hc66 0 _ rfl hs), ⟨hr58.ne x60 h65 h72, h65, h72⟩, cell0 (hc73 0 _ rfl hs)⟩) ?_
        refine at_x1 1 8 (#[true, true, true, true, true, true, true, true, true, false]) rfl (by kernel_rfl) (by kernel_rfl) rfl rfl ?_
        obtain ⟨b3, H79, H⟩ := bind_some H
        have hm_ := laws_lwSame.calls (I0 := I) H79 hr69 hr76
        refine eff_call rfl rfl ok27 rfl rfl (show Meets Try.prog 27 ([.slice A67 (rdA [] p51 x60).length c68, .slice A74 (rdA [] p55 x60).length c75] : List Value).toArray _ [] _ from hm_) (Mr := (Fs)) (List.Perm.refl _) (fun v80 J81 M82 hq83 hJ84 => ?_)
        replace hle := hle.trans hJ84
        replace hr54 := hr54.mono hJ84
        replace hr58 := hr58.mono hJ84
        replace hr69 := hr69.mono hJ84
        replace hr76 := hr76.mono hJ84
        replace hc66 := hc_mono hc66 hJ84
        replace hc73 := hc_mono hc73 hJ84
        obtain ⟨rfl, rfl⟩ := hq83
        refine at_xS (fun w hs => ⟨cell0 (hc66 0 _ rfl hs), cell0 (hc73 0 _ rfl hs)⟩) ?_
        refine at_xseg [9] 0 (#[true, true, true, true, true, true, true, true, true, true]) rfl (by kernel_rfl) [] [0, 1, 5, 26] (L2 := [(0, .slice A52 p51.length c53), (1, .slice A56 p55.length c57), (5, .int .i64 x60), (26, .bool (!b3))]) (obs := []) (by kernel_rfl) (by kernel_rfl) (by kernel_rfl) (.inr fun w hs => ⟨cell0 (hc66 0 _ rfl hs), cell0 (hc73 0 _ rfl hs)⟩) (fun w hS => trivial) (fun w hs => trivial) ?_
        refine at_xend (by kernel_rfl) ?_
        refine at_thn ?_
        by_cases h85 : b3 = true
        · rw [if_pos h85] at H
          refine at_cond_f rfl (not_ff (h85)) ?_
          refine at_skip ?_
          refine at_in_norm ?_
          refine at_thn ?_
          refine at_reg [] [0, 1, 5] (L2 := [(0, .slice A52 p51.length c53), (1, .slice A56 p55.length c57), (5, .int .i64 (IntKind.i64.wrap (x60 + 1)))]) (obs := []) (by kernel_rfl) ?_ ?_
          · intro w hs; exact trivial
          refine at_thn ?_
          refine at_keep [0, 1, 5] (L2 := [(0, .slice A52 p51.length c53), (1, .slice A56 p55.length c57), (5, .int .i64 (IntKind.i64.wrap (x60 + 1)))]) rfl ?_
          exact ih62 _ (by omega) _ _ _ ⟨IntKind.i64.wrap (x60 + 1), rfl, rfl, H, hle, by omega, hr54, hr58⟩
        · rw [if_neg h85] at H
          refine at_cond_t rfl (not_tt (ff_of h85)) ?_
          refine at_seq ?_
          refine at_reg [] [4] (L2 := [(4, .bool false)]) (obs := []) (by kernel_rfl) ?_ ?_
          · intro w hs; exact trivial
          refine at_thn ?_
          refine at_ret ?_
          refine at_in_ret ?_
          refine at_then_ret ?_
          refine at_then_ret ?_
          refine at_in_ret ?_
          refine at_then_ret ?_
          obtain rfl := Option.some.inj H
          refine at_done (vs := [.bool false]) (obs := []) (.inl rfl) [.tmp 4] [] rfl (by kernel_rfl) (fun w hs => trivial) (fun w hs => ⟨_, _, [], rfl, ⟨rfl, rfl⟩, hle, hs⟩)
      · rw [if_neg h64] at H
        refine at_cond_f rfl (decide_eq_false h64) ?_
        refine at_exit ?_
        refine at_then_exit ?_
        refine at_then_exit ?_
        refine at_in_hit ?_
        refine at_thn ?_
        refine at_seq ?_
        refine at_reg [] [4] (L2 := [(4, .bool true)]) (obs := []) (by kernel_rfl) ?_ ?_
        · intro w hs; exact trivial
        refine at_thn ?_
        refine at_ret ?_
        obtain rfl := Option.some.inj H
        refine at_done (vs := [.bool true]) (obs := []) (.inl rfl) [.tmp 4] [] rfl (by kernel_rfl) (fun w hs => trivial) (fun w hs => ⟨_, _, [], rfl, ⟨rfl, rfl⟩, hle, hs⟩)
  · rw [if_neg h59] at H
    refine at_cond_t rfl (bne_iff_ne.2 h59) ?_
    refine at_seq ?_
    refine at_reg [] [4] (L2 := [(4, .bool false)]) (obs := []) (by kernel_rfl) ?_ ?_
    · intro w hs; exact trivial
    refine at_thn ?_
    refine at_ret ?_
    refine at_then_ret ?_
    obtain rfl := Option.some.inj H
    refine at_done (vs := [.bool false]) (obs := []) (.inl rfl) [.tmp 4] [] rfl (by kernel_rfl) (fun w hs => trivial) (fun w hs => ⟨_, _, [], rfl, ⟨rfl, rfl⟩, hle, hs⟩)

/-! ### loop.example/g00146/laws.lwRing: function 23 -/
def laws_lwRing (k : Nat) (p41 : T_impl_Ring) (p45 : T_impl_Ring) : Option Bool := (laws_lwLists k p41.Items p45.Items).bind fun b3 => (if b3 = true then (some (p41.At == p45.At)) else (some false))
set_option maxHeartbeats 4000000 in
set_option maxRecDepth 100000 in
theorem laws_lwRing.calls {k : Nat} {p41 : T_impl_Ring} {p45 : T_impl_Ring} {r : Bool} {I0 : Imm} {A42 : Option Addr} {c43 : Nat} {A46 : Option Addr} {c47 : Nat} (H : laws_lwRing k p41 p45 = some r) (hr44 : Rd (Kd.slice (Kd.int .i64)) I0 A42 c43 p41.Items) (hr48 : Rd (Kd.slice (Kd.int .i64)) I0 A46 c47 p45.Items) :
    Meets Try.prog 23 ([.agg #[.slice A42 p41.Items.length c43, .int .i64 p41.At], .agg #[.slice A46 p45.Items.length c47, .int .i64 p45.At]] : List Value).toArray I0 [] (fun v J M => v = .bool r ∧ M = []) := by
  have hle := ImmLe.refl I0
  unfold laws_lwRing at H
  refine fn_intro (fn := Try.f23) 17 Try.func23 rfl rfl rfl (fun E Fs => ?_)
  refine at_seq ?_
  refine at_ops [0, 1, 2] rfl ?_
  refine at_eff rfl rfl ?_
  refine eff_box rfl rfl rfl #[.slice A42 p41.Items.length c43, .int .i64 p41.At] rfl (fun g49 => ?_)
  refine at_eff rfl rfl ?_
  refine eff_box rfl rfl rfl #[.slice A46 p45.Items.length c47, .int .i64 p45.At] rfl (fun g50 => ?_)
  refine at_seg [2] [] rfl [] [2, 3] (L2 := [(2, .pointer (some ⟨g49, 0, none⟩)), (3, .pointer (some ⟨g50, 0, none⟩))]) (obs := []) (by kernel_rfl) ?_ ?_
  · intro w hs; exact trivial
  refine at_end ?_
  refine at_thn ?_
  refine at_seq ?_
  refine at_ops [0, 1, 2, 3, 4, 5, 6, 7, 8, 9, 10, 11, 12] rfl ?_
  refine at_seg [0, 1, 2, 3] [4, 5, 6, 7, 8, 9, 10, 11, 12] rfl [(1, .slice A42 p41.Items.length c43), (3, .slice A46 p45.Items.length c47)] [2, 3, 6, 8] (L2 := [(2, .pointer (some ⟨g49, 0, none⟩)), (3, .pointer (some ⟨g50, 0, none⟩)), (6, .slice A42 p41.Items.length c43), (8, .slice A46 p45.Items.length c47)]) (obs := [fun w => w.cell? ⟨g49, 0, none⟩ = some (.slice A42 p41.Items.length c43), fun w => w.cell? ⟨g50, 0, none⟩ = some (.slice A46 p45.Items.length c47)]) (by kernel_rfl) ?_ ?_
  · intro w hs; exact ⟨hs.var (k := 1) rfl 0 rfl, hs.var (k := 0) rfl 0 rfl⟩
  refine at_eff rfl rfl ?_
  obtain ⟨b3, H51, H⟩ := bind_some H
  have hm_ := laws_lwLists.calls (I0 := I0) H51 hr44 hr48
  refine eff_call rfl rfl ok55 rfl rfl (show Meets Try.prog 55 ([.slice A42 p41.Items.length c43, .slice A46 p45.Items.length c47] : List Value).toArray _ [] _ from hm_) (Mr := ([(g50, .cells #[.slice A46 p45.Items.length c47, .int .i64 p45.At] 38 (0, 0))] :: [(g49, .cells #[.slice A42 p41.Items.length c43, .int .i64 p41.At] 38 (0, 0))] :: Fs)) (List.Perm.refl _) (fun v52 J53 M54 hq55 hJ56 => ?_)
  replace hle := hle.trans hJ56
  replace hr44 := hr44.mono hJ56
  replace hr48 := hr48.mono hJ56
  obtain ⟨rfl, rfl⟩ := hq55
  by_cases h57 : b3 = true
  · rw [if_pos h57] at H
    refine at_seg [5, 6, 7, 8, 9, 10, 11, 12] [] rfl [(5, .bool true), (7, .int .i64 p41.At), (9, .int .i64 p45.At)] [4] (L2 := [(4, .bool (p41.At == p45.At))]) (obs := [fun _ => (.bool b3 : Value) = .bool true, fun w => w.cell? ⟨g49, 1, none⟩ = some (.int .i64 p41.At), fun w => w.cell? ⟨g50, 1, none⟩ = some (.int .i64 p45.At)]) (by kernel_rfl) ?_ ?_
    · intro w hs; exact ⟨congrArg Value.bool (h57), hs.var (k := 1) rfl 1 rfl, hs.var (k := 0) rfl 1 rfl⟩
    refine at_end ?_
    refine at_thn ?_
    refine at_ret ?_
    obtain rfl := Option.some.inj H
    refine at_drop (k := 0) rfl rfl ?_
    refine at_drop (k := 0) rfl rfl ?_
    refine at_done (vs := [.bool (p41.At == p45.At)]) (obs := []) (.inl rfl) [.tmp 4] [] rfl (by kernel_rfl) (fun w hs => trivial) (fun w hs => ⟨_, _, [], rfl, ⟨rfl, rfl⟩, hle, hs⟩)
  · rw [if_neg h57] at H
    refine at_seg [5, 6, 7, 8, 9, 10, 11, 12] [] rfl [(5, .bool false)] [4] (L2 := [(4, .bool false)]) (obs := [fun _ => (.bool b3 : Value) = .bool false]) (by kernel_rfl) ?_ ?_
    · intro w hs; exact congrArg Value.bool (ff_of h57)
    refine at_end ?_
    refine at_thn ?_
    refine at_ret ?_
    obtain rfl := Option.some.inj H
    refine at_drop (k := 0) rfl rfl ?_
    refine at_drop (k := 0) rfl rfl ?_
    refine at_done (vs := [.bool false]) (obs := []) (.inl rfl) [.tmp 4] [] rfl (by kernel_rfl) (fun w hs => trivial) (fun w hs => ⟨_, _, [], rfl, ⟨rfl, rfl⟩, hle, hs⟩)

/-! ### loop.example/g00146/impl.RingTop: function 28 -/
def impl_RingTop (k : Nat) (p78 : T_impl_Ring) : Option (List Int) := (impl_RingRight k p78).bind fun b7 => (if b7 = true then (if (p78.Items.length : Int) = 0 then (some ([] : List Int)) else (if 0 ≤ p78.At then (if p78.At < (p78.Items.length : Int) then ((slices_Clone_int64_int64 (rdA [] p78.Items p78.At)).bind fun b8 => (some b8)) else none) else none)) else (some ([] : List Int)))
set_option maxHeartbeats 4000000 in
set_option maxRecDepth 100000 in
theorem impl_RingTop.calls {k : Nat} {p78 : T_impl_Ring} {r : (List Int)} {I0 : Imm} {A79 : Option Addr} {c80 : Nat} (H : impl_RingTop k p78 = some r) (hr81 : Rd (Kd.slice (Kd.int .i64)) I0 A79 c80 p78.Items) :
    Meets Try.prog 28 ([.agg #[.slice A79 p78.Items.length c80, .int .i64 p78.At]] : List Value).toArray I0 [] (fun v J M => ∃ (A_1 : Option Addr) (c_2 : Nat) (s_3 : Seg), v = .slice A_1 r.length c_2 ∧ M = [s_3] ∧ Own (Kd.int .i64) 2 J A_1 c_2 r s_3) := by
  have hle := ImmLe.refl I0
  unfold impl_RingTop at H
  refine fn_intro (fn := Try.f28) 19 Try.func28 rfl rfl rfl (fun E Fs => ?_)
  refine at_seq ?_
  refine at_ops [0, 1] rfl ?_
  refine at_eff rfl rfl ?_
  refine eff_box rfl rfl rfl #[.slice A79 p78.Items.length c80, .int .i64 p78.At] rfl (fun g82 => ?_)
  refine at_seg [1] [] rfl [] [1] (L2 := [(1, .pointer (some ⟨g82, 0, none⟩))]) (obs := []) (by kernel_rfl) ?_ ?_
  · intro w hs; exact trivial
  refine at_end ?_
  refine at_thn ?_
  refine at_seq ?_
  refine at_seq ?_
  refine at_ops [0, 1, 2, 3, 4, 5, 6, 7, 8] rfl ?_
  refine at_seg [0] [1, 2, 3, 4, 5, 6, 7, 8] rfl [(0, .agg #[.slice A79 p78.Items.length c80, .int .i64 p78.At])] [1, 3] (L2 := [(1, .pointer (some ⟨g82, 0, none⟩)), (3, .agg #[.slice A79 p78.Items.length c80, .int .i64 p78.At])]) (obs := [fun w => CellsAt w ⟨g82, 0, none⟩ [.slice A79 p78.Items.length c80, .int .i64 p78.At] 0]) (by kernel_rfl) ?_ ?_
  · intro w hs; exact cellsV (k := 0) hs rfl _ 0 (Nat.le_of_ble_eq_true (by kernel_rfl)) rfl
  refine at_eff rfl rfl ?_
  obtain ⟨b7, H83, H⟩ := bind_some H
  have hm_ := impl_RingRight.calls (I0 := I0) H83 hr81
  refine eff_call rfl rfl ok26 rfl rfl (show Meets Try.prog 26 ([.agg #[.slice A79 p78.Items.length c80, .int .i64 p78.At]] : List Value).toArray _ [] _ from hm_) (Mr := ([(g82, .cells #[.slice A79 p78.Items.length c80, .int .i64 p78.At] 38 (0, 0))] :: Fs)) (List.Perm.refl _) (fun v84 J85 M86 hq87 hJ88 => ?_)
  replace hle := hle.trans hJ88
  replace hr81 := hr81.mono hJ88
  obtain ⟨rfl, rfl⟩ := hq87
  by_cases h89 : b7 = true
  · rw [if_pos h89] at H
    refine at_seg [2, 3, 4, 5, 6, 7, 8] [] rfl [(3, .bool false), (5, .slice A79 p78.Items.length c80)] [1, 11] (L2 := [(1, .pointer (some ⟨g82, 0, none⟩)), (11, .bool ((p78.Items.length : Int) == 0))]) (obs := [fun _ => (.bool (!b7) : Value) = .bool false, fun w => w.cell? ⟨g82, 0, none⟩ = some (.slice A79 p78.Items.length c80)]) (by kernel_rfl) ?_ ?_
    · intro w hs; exact ⟨congrArg Value.bool (not_ff (h89)), hs.var (k := 0) rfl 0 rfl⟩
    refine at_end ?_
    refine at_thn ?_
    by_cases h90 : (p78.Items.length : Int) = 0
    · rw [if_pos h90] at H
      refine at_cond_t rfl (beq_iff_eq.2 h90) ?_
      refine at_seq ?_
      refine at_reg [] [2] (L2 := [(2, .slice none ([] : List Int).length 0)]) (obs := []) (by kernel_rfl) ?_ ?_
      · intro w hs; exact trivial
      refine at_thn ?_
      refine at_ret ?_
      refine at_then_ret ?_
      refine at_nilseg ?_
      have ho91 := Own.nil (Kd.int .i64) 2 J85
      obtain rfl := Option.some.inj H
      refine at_drop (k := 1) rfl rfl ?_
      refine at_done (vs := [.slice none ([] : List Int).length 0]) (obs := []) (.inl rfl) [.tmp 2] [] rfl (by kernel_rfl) (fun w hs => trivial) (fun w hs => ⟨_, _, [[]], rfl, ⟨none, 0, [], rfl, rfl, ho91⟩, hle, hs⟩)
    · rw [if_neg h90] at H
      refine at_cond_f rfl (beq_eq_false_iff_ne.2 h90) ?_
      refine at_skip ?_
      refine at_thn ?_
      refine at_seq ?_
      refine at_ops [0, 1, 2, 3, 4, 5, 6, 7] rfl ?_
      obtain ⟨h92, H⟩ := ite_some H
      obtain ⟨h93, H⟩ := ite_some H
      obtain ⟨cs98, hz99, hc94⟩ := hr81.elem [] p78.At h92 h93
      obtain ⟨A95, c96, rfl, hr97⟩ := hz99
      refine at_seg [0, 1, 2, 3, 4, 5] [6, 7] rfl [(1, .slice A79 p78.Items.length c80), (3, .int .i64 p78.At), (5, .slice A95 (rdA [] p78.Items p78.At).length c96)] [17] (L2 := [(17, .slice A95 (rdA [] p78.Items p78.At).length c96)]) (obs := [fun w => w.cell? ⟨g82, 0, none⟩ = some (.slice A79 p78.Items.length c80), fun w => w.cell? ⟨g82, 1, none⟩ = some (.int .i64 p78.At), fun _ => A79.isSome = true ∧ 0 ≤ p78.At ∧ p78.At < ((p78.Items.length : Nat) : Int), fun w => w.cell? ((A79.getD ad0).add (p78.At.toNat * 1)) = some (.slice A95 (rdA [] p78.Items p78.At).length c96)]) (by kernel_rfl) ?_ ?_
      · intro w hs; exact ⟨hs.var (k := 0) rfl 0 rfl, hs.var (k := 0) rfl 1 rfl, ⟨hr81.ne p78.At h92 h93, h92, h93⟩, cell0 (hc94 0 _ rfl hs)⟩
      refine at_eff rfl rfl ?_
      obtain ⟨b8, H100, H⟩ := bind_some H
      have hm_ := slices_Clone_int64_int64.calls (I0 := J85) H100 hr97
      refine eff_call rfl rfl ok61 rfl rfl (show Meets Try.prog 61 ([.slice A95 (rdA [] p78.Items p78.At).length c96] : List Value).toArray _ [] _ from hm_) (Mr := ([(g82, .cells #[.slice A79 p78.Items.length c80, .int .i64 p78.At] 38 (0, 0))] :: Fs)) (List.Perm.refl _) (fun v101 J102 M103 hq104 hJ105 => ?_)
      replace hle := hle.trans hJ105
      replace hr81 := hr81.mono hJ105
      replace hr97 := hr97.mono hJ105
      obtain ⟨A106, c107, s108, rfl, rfl, ho109⟩ := hq104
      refine at_seg [7] [] rfl [] [2] (L2 := [(2, .slice A106 b8.length c107)]) (obs := []) (by kernel_rfl) ?_ ?_
      · intro w hs; exact trivial
      refine at_end ?_
      refine at_thn ?_
      refine at_ret ?_
      obtain rfl := Option.some.inj H
      refine at_drop (k := 1) rfl rfl ?_
      refine at_done (vs := [.slice A106 b8.length c107]) (obs := []) (.inl rfl) [.tmp 2] [] rfl (by kernel_rfl) (fun w hs => trivial) (fun w hs => ⟨_, _, [s108], rfl, ⟨A106, c107, s108, rfl, rfl, ho109⟩, hle, hs⟩)
  · rw [if_neg h89] at H
    refine at_seg [2, 3, 4, 5, 6, 7, 8] [] rfl [(3, .bool true)] [1, 11] (L2 := [(1, .pointer (some ⟨g82, 0, none⟩)), (11, .bool true)]) (obs := [fun _ => (.bool (!b7) : Value) = .bool true]) (by kernel_rfl) ?_ ?_
    · intro w hs; exact congrArg Value.bool (not_tt (ff_of h89))
    refine at_end ?_
    refine at_thn ?_
    refine at_cond_t rfl (rfl) ?_
    refine at_seq ?_
    refine at_reg [] [2] (L2 := [(2, .slice none ([] : List Int).length 0)]) (obs := []) (by kernel_rfl) ?_ ?_
    · intro w hs; exact trivial
    refine at_thn ?_
    refine at_ret ?_
    refine at_then_ret ?_
    refine at_nilseg ?_
    have ho110 := Own.nil (Kd.int .i64) 2 J85
    obtain rfl := Option.some.inj H
    refine at_drop (k := 1) rfl rfl ?_
    refine at_done (vs := [.slice none ([] : List Int).length 0]) (obs := []) (.inl rfl) [.tmp 2] [] rfl (by kernel_rfl) (fun w hs => trivial) (fun w hs => ⟨_, _, [[]], rfl, ⟨none, 0, [], rfl, rfl, ho110⟩, hle, hs⟩)
end Go.Proofs.Ytocfakbgefdgkaa
