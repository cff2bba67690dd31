import Derived.Test.YtabdhegmepaeiaaJ7
namespace Go.Proofs.Ytabdhegmepaeiaa
open Go Eng
set_option linter.unusedVariables false
set_option linter.unusedSimpArgs false
/-! ### loop.example/g00146/laws.eqRing: function 11 -/
def laws_eqRing (k : Nat) (p94 : T_impl_Ring) (p98 : T_impl_Ring) : Option Bool := (laws_eqInt64SS k p94.Items p98.Items).bind fun b8 => (if b8 = true then (if p94.At = p98.At then (some true) else (some false)) else (some false))
set_option maxHeartbeats 4000000 in
set_option maxRecDepth 100000 in
theorem laws_eqRing.calls {k : Nat} {p94 : T_impl_Ring} {p98 : T_impl_Ring} {r : Bool} {I0 : Imm} {A95 : Option Addr} {c96 : Nat} {A99 : Option Addr} {c100 : Nat} (H : laws_eqRing k p94 p98 = some r) (hr97 : Rd (Kd.slice (Kd.int .i64)) I0 A95 c96 p94.Items) (hr101 : Rd (Kd.slice (Kd.int .i64)) I0 A99 c100 p98.Items) :
    Meets Try.prog 11 ([.agg #[.slice A95 p94.Items.length c96, .int .i64 p94.At], .agg #[.slice A99 p98.Items.length c100, .int .i64 p98.At]] : List Value).toArray I0 [] (fun v J M => v = .bool r ∧ M = []) := by
  have hle := ImmLe.refl I0
  unfold laws_eqRing at H
  refine fn_intro (fn := Try.f11) 16 Try.func11 rfl rfl rfl (fun E Fs => ?_)
  refine at_seq ?_
  refine at_ops [0, 1, 2] rfl ?_
  refine at_eff rfl rfl ?_
  refine eff_box rfl rfl rfl #[.slice A95 p94.Items.length c96, .int .i64 p94.At] rfl (fun g102 => ?_)
  refine at_eff rfl rfl ?_
  refine eff_box rfl rfl rfl #[.slice A99 p98.Items.length c100, .int .i64 p98.At] rfl (fun g103 => ?_)
  refine at_seg [2] [] rfl [] [2, 3] (L2 := [(2, .pointer (some ⟨g102, 0, none⟩)), (3, .pointer (some ⟨g103, 0, none⟩))]) (obs := []) (by kernel_rfl) ?_ ?_
  · intro w hs; exact trivial
  refine at_end ?_
  refine at_thn ?_
  refine at_seq ?_
  refine at_seq ?_
  refine at_ops [0, 1, 2, 3, 4, 5] rfl ?_
  refine at_seg [0, 1, 2, 3] [4, 5] rfl [(1, .slice A95 p94.Items.length c96), (3, .slice A99 p98.Items.length c100)] [2, 3, 6, 8] (L2 := [(2, .pointer (some ⟨g102, 0, none⟩)), (3, .pointer (some ⟨g103, 0, none⟩)), (6, .slice A95 p94.Items.length c96), (8, .slice A99 p98.Items.length c100)]) (obs := [fun w => w.cell? ⟨g102, 0, none⟩ = some (.slice A95 p94.Items.length c96), fun w => w.cell? ⟨g103, 0, none⟩ = some (.slice A99 p98.Items.length c100)]) (by kernel_rfl) ?_ ?_
  · intro w hs; exact ⟨hs.var (k := 1) rfl 0 rfl, hs.var (k := 0) rfl 0 rfl⟩
  refine at_eff rfl rfl ?_
  obtain ⟨b8, H104, H⟩ := bind_some H
  have hm_ := laws_eqInt64SS.calls (I0 := I0) H104 hr97 hr101
  refine eff_call rfl rfl ok36 rfl rfl (show Meets Try.prog 36 ([.slice A95 p94.Items.length c96, .slice A99 p98.Items.length c100] : List Value).toArray _ [] _ from hm_) (Mr := ([(g103, .cells #[.slice A99 p98.Items.length c100, .int .i64 p98.At] 27 (0, 0))] :: [(g102, .cells #[.slice A95 p94.Items.length c96, .int .i64 p94.At] 27 (0, 0))] :: Fs)) (List.Perm.refl _) (fun v105 J106 M107 hq108 hJ109 => ?_)
  replace hle := hle.trans hJ109
  replace hr101 := hr101.mono hJ109
  replace hr97 := hr97.mono hJ109
  obtain ⟨rfl, rfl⟩ := hq108
  refine at_seg [5] [] rfl [] [2, 3, 10] (L2 := [(2, .pointer (some ⟨g102, 0, none⟩)), (3, .pointer (some ⟨g103, 0, none⟩)), (10, .bool (!b8))]) (obs := []) (by kernel_rfl) ?_ ?_
  · intro w hs; exact trivial
  refine at_end ?_
  refine at_thn ?_
  by_cases h110 : b8 = true
  · rw [if_pos h110] at H
    refine at_cond_f rfl (not_ff (h110)) ?_
    refine at_skip ?_
    refine at_thn ?_
    refine at_seq ?_
    refine at_seq ?_
    refine at_reg [(1, .int .i64 p94.At), (3, .int .i64 p98.At)] [15] (L2 := [(15, .bool (p94.At != p98.At))]) (obs := [fun w => w.cell? ⟨g102, 1, none⟩ = some (.int .i64 p94.At), fun w => w.cell? ⟨g103, 1, none⟩ = some (.int .i64 p98.At)]) (by kernel_rfl) ?_ ?_
    · intro w hs; exact ⟨hs.var (k := 1) rfl 1 rfl, hs.var (k := 0) rfl 1 rfl⟩
    refine at_thn ?_
    by_cases h111 : p94.At = p98.At
    · rw [if_pos h111] at H
      refine at_cond_f rfl (bne_eq_false_iff_eq.2 h111) ?_
      refine at_skip ?_
      refine at_thn ?_
      refine at_seq ?_
      refine at_reg [] [4] (L2 := [(4, .bool true)]) (obs := []) (by kernel_rfl) ?_ ?_
      · intro w hs; exact trivial
      refine at_thn ?_
      refine at_ret ?_
      obtain rfl := Option.some.inj H
      refine at_drop (k := 0) rfl rfl ?_
      refine at_drop (k := 0) rfl rfl ?_
      refine at_done (vs := [.bool true]) (obs := []) (.inl rfl) [.tmp 4] [] rfl (by kernel_rfl) (fun w hs => trivial) (fun w hs => ⟨_, _, [], rfl, ⟨rfl, rfl⟩, hle, hs⟩)
    · rw [if_neg h111] at H
      refine at_cond_t rfl (bne_iff_ne.2 h111) ?_
      refine at_seq ?_
      refine at_reg [] [4] (L2 := [(4, .bool false)]) (obs := []) (by kernel_rfl) ?_ ?_
      · intro w hs; exact trivial
      refine at_thn ?_
      refine at_ret ?_
      refine at_then_ret ?_
      obtain rfl := Option.some.inj H
      refine at_drop (k := 0) rfl rfl ?_
      refine at_drop (k := 0) rfl rfl ?_
      refine at_done (vs := [.bool false]) (obs := []) (.inl rfl) [.tmp 4] [] rfl (by kernel_rfl) (fun w hs => trivial) (fun w hs => ⟨_, _, [], rfl, ⟨rfl, rfl⟩, hle, hs⟩)
  · rw [if_neg h110] at H
    refine at_cond_t rfl (not_tt (ff_of h110)) ?_
    refine at_seq ?_
    refine at_reg [] [4] (L2 := [(4, .bool false)]) (obs := []) (by kernel_rfl) ?_ ?_
    · intro w hs; exact trivial
    refine at_thn ?_
    refine at_ret ?_
    refine at_then_ret ?_
    obtain rfl := Option.some.inj H
    refine at_drop (k := 0) rfl rfl ?_
    refine at_drop (k := 0) rfl rfl ?_
    refine at_done (vs := [.bool false]) (obs := []) (.inl rfl) [.tmp 4] [] rfl (by kernel_rfl) (fun w hs => trivial) (fun w hs => ⟨_, _, [], rfl, ⟨rfl, rfl⟩, hle, hs⟩)

/-! ### loop.example/g00146/laws.markInt64S: function 14 -/
def laws_markInt64S_l0 : Nat → (List Int) → Int → Int → (List Int) → Option (Int × (List Int))
  | 0, _, _, _, _ => none
  | k + 1, x168, x173, x174, p162 => if x174 < (x168.length : Int) then (if 0 ≤ x174 then (laws_markInt64S_l0 k (x168.set x174.toNat x173) (IntKind.i64.wrap (x173 + 1)) (IntKind.i64.wrap (x174 + 1)) p162) else none) else (if x168.length = p162.length then (some (x173, x168)) else none)
def laws_markInt64S (k : Nat) (p162 : List Int) (p167 : Int) : Option (Int × (List Int)) := laws_markInt64S_l0 k p162 p167 0 p162
set_option maxHeartbeats 4000000 in
set_option maxRecDepth 100000 in
theorem laws_markInt64S.calls {k : Nat} {p162 : List Int} {p167 : Int} {r : Int × (List Int)} {I0 : Imm} {A163 : Option Addr} {c164 : Nat} {s165 : Seg} (H : laws_markInt64S k p162 p167 = some r) (ho166 : Own (Kd.int .i64) 2 I0 A163 c164 p162 s165) :
    Meets Try.prog 14 ([.slice A163 p162.length c164, .int .i64 p167] : List Value).toArray I0 [s165] (fun v J M => ∃ (s_1 : Seg), v = .int .i64 r.1 ∧ M = [s_1] ∧ Own (Kd.int .i64) 2 J A163 c164 r.2 s_1 ∧ r.2.length = p162.length) := by
  have hle := ImmLe.refl I0
  unfold laws_markInt64S at H
  refine fn_intro (fn := Try.f14) 19 Try.func14 rfl rfl rfl (fun E Fs => ?_)
  refine at_seq ?_
  refine at_reg [] [0, 1] (L2 := [(0, .slice A163 p162.length c164), (1, .int .i64 p167)]) (obs := []) (by kernel_rfl) ?_ ?_
  · intro w hs; exact trivial
  refine at_thn ?_
  refine at_seq ?_
  refine at_seq ?_
  refine at_reg [] [0, 1, 5] (L2 := [(0, .slice A163 p162.length c164), (1, .int .i64 p167), (5, .int .i64 0)]) (obs := []) (by kernel_rfl) ?_ ?_
  · intro w hs; exact trivial
  refine at_thn ?_
  refine at_block ?_
  refine at_keep [0, 1, 5] (L2 := [(0, .slice A163 p162.length c164), (1, .int .i64 p167), (5, .int .i64 0)]) rfl ?_
  refine at_loop (fun k175 L I Ms => ∃ (x168 : List Int) (s171 : Seg) (x173 : Int) (x174 : Int), L = [(0, .slice A163 x168.length c164), (1, .int .i64 x173), (5, .int .i64 x174)] ∧ Ms = (s171 :: Fs) ∧ laws_markInt64S_l0 k175 x168 x173 x174 p162 = some r ∧ ImmLe I0 I ∧ k175 ≤ k ∧ Own (Kd.int .i64) 2 I A163 c164 x168 s171) ?_ ?_ k ⟨p162, s165, p167, 0, rfl, rfl, H, hle, Nat.le_refl _, ho166⟩
  · rintro L I Ms ⟨_, _, _, _, rfl, rfl, H, _⟩; exact no_none H
  · clear H hle ho166
    intro k175 ih176 L I Ms h_; obtain ⟨x168, s171, x173, x174, hL_, hM_, H, hle, hk177, ho172⟩ := h_; rw [hL_, hM_]; clear hL_ hM_ L Ms
    rw [laws_markInt64S_l0] at H
    refine at_seq ?_
    refine at_seq ?_
    refine at_reg [] [0, 1, 5, 9] (L2 := [(0, .slice A163 x168.length c164), (1, .int .i64 x173), (5, .int .i64 x174), (9, .bool (decide (x174 < (x168.length : Int))))]) (obs := []) (by kernel_rfl) ?_ ?_
    · intro w hs; exact trivial
    refine at_thn ?_
    by_cases h178 : x174 < (x168.length : Int)
    · rw [if_pos h178] at H
      refine at_cond_t rfl (decide_eq_true h178) ?_
      refine at_skip ?_
      refine at_thn ?_
      refine at_seq ?_
      refine at_block ?_
      refine at_seq ?_
      refine at_ops [0, 1, 2, 3, 4] rfl ?_
      obtain ⟨h179, H⟩ := ite_some H
      refine at_seg [0, 1, 2, 3] [4] rfl [] [0, 1, 5, 14, 15] (L2 := [(0, .slice A163 x168.length c164), (1, .int .i64 x173), (5, .int .i64 x174), (14, .int .i64 x173), (15, .pointer (some ((A163.getD ad0).add (x174.toNat * 1))))]) (obs := [fun _ => A163.isSome = true ∧ 0 ≤ x174 ∧ x174 < ((x168.length : Nat) : Int)]) (by kernel_rfl) ?_ ?_
      · intro w hs; exact ⟨ho172.ne x174 h179 h178, h179, h178⟩
      refine at_eff rfl rfl ?_
      refine eff_storeOwn (K := (Kd.int .i64)) (u := x173) 0 0 0 x174 rfl rfl rfl rfl ho172 rfl h179 h178 (add0 _).symm rfl (Nat.le_of_ble_eq_true (by kernel_rfl)) rfl (by rintro cs_ rfl; rfl) (fun s180 ho181 => ?_)
      refine at_eqL2 (L1 := [(0, .slice A163 x168.length c164), (1, .int .i64 x173), (5, .int .i64 x174), (14, .int .i64 x173), (15, .pointer (some ((A163.getD ad0).add (x174.toNat * 1))))]) (L2 := [(0, .slice A163 (x168.set x174.toNat x173).length c164), (1, .int .i64 x173), (5, .int .i64 x174), (14, .int .i64 x173), (15, .pointer (some ((A163.getD ad0).add (x174.toNat * 1))))]) rfl (by simp only [List.length_set]) ?_
      refine at_end ?_
      refine at_thn ?_
      refine at_reg [] [0, 1, 5] (L2 := [(0, .slice A163 (x168.set x174.toNat x173).length c164), (1, .int .i64 (IntKind.i64.wrap (x173 + 1))), (5, .int .i64 x174)]) (obs := []) (by kernel_rfl) ?_ ?_
      · intro w hs; exact trivial
      refine at_in_norm ?_
      refine at_thn ?_
      refine at_reg [] [0, 1, 5] (L2 := [(0, .slice A163 (x168.set x174.toNat x173).length c164), (1, .int .i64 (IntKind.i64.wrap (x173 + 1))), (5, .int .i64 (IntKind.i64.wrap (x174 + 1)))]) (obs := []) (by kernel_rfl) ?_ ?_
      · intro w hs; exact trivial
      refine at_thn ?_
      refine at_keep [0, 1, 5] (L2 := [(0, .slice A163 (x168.set x174.toNat x173).length c164), (1, .int .i64 (IntKind.i64.wrap (x173 + 1))), (5, .int .i64 (IntKind.i64.wrap (x174 + 1)))]) rfl ?_
      exact ih176 _ (by omega) _ _ _ ⟨x168.set x174.toNat x173, s180, IntKind.i64.wrap (x173 + 1), IntKind.i64.wrap (x174 + 1), rfl, rfl, H, hle, by omega, ho181⟩
    · rw [if_neg h178] at H
      refine at_cond_f rfl (decide_eq_false h178) ?_
      refine at_exit ?_
      refine at_then_exit ?_
      refine at_then_exit ?_
      refine at_in_hit ?_
      refine at_thn ?_
      refine at_seq ?_
      refine at_reg [] [0, 4] (L2 := [(0, .slice A163 x168.length c164), (4, .int .i64 x173)]) (obs := []) (by kernel_rfl) ?_ ?_
      · intro w hs; exact trivial
      refine at_thn ?_
      refine at_ret ?_
      obtain ⟨h182, H⟩ := ite_some H
      obtain rfl := Option.some.inj H
      refine at_done (vs := [.int .i64 x173]) (obs := []) (.inl rfl) [.tmp 4] [] rfl (by kernel_rfl) (fun w hs => trivial) (fun w hs => ⟨_, _, [s171], rfl, ⟨s171, rfl, rfl, ho172, h182⟩, hle, hs⟩)

/-! ### loop.example/g00146/laws.markInt64SS: function 37 -/
def laws_markInt64SS_l0 : Nat → (List (List Int)) → Int → Int → (List (List Int)) → Option (Int × (List (List Int)))
  | 0, _, _, _, _ => none
  | k + 1, x155, x160, x161, p149 => if x161 < (x155.length : Int) then (if 0 ≤ x161 then ((laws_markInt64S k (rdA [] x155 x161) x160).bind fun b13 => (laws_markInt64SS_l0 k (x155.set x161.toNat b13.2) b13.1 (IntKind.i64.wrap (x161 + 1)) p149)) else none) else (if x155.length = p149.length then (some (x160, x155)) else none)
def laws_markInt64SS (k : Nat) (p149 : List (List Int)) (p154 : Int) : Option (Int × (List (List Int))) := laws_markInt64SS_l0 k p149 p154 0 p149
set_option maxHeartbeats 4000000 in
set_option maxRecDepth 100000 in
theorem laws_markInt64SS.calls {k : Nat} {p149 : List (List Int)} {p154 : Int} {r : Int × (List (List Int))} {I0 : Imm} {A150 : Option Addr} {c151 : Nat} {s152 : Seg} (H : laws_markInt64SS k p149 p154 = some r) (ho153 : DOwn (DK.sl (Kd.int .i64) 2) 25 I0 A150 c151 p149 s152) :
    Meets Try.prog 37 ([.slice A150 p149.length c151, .int .i64 p154] : List Value).toArray I0 [s152] (fun v J M => ∃ (s_1 : Seg), v = .int .i64 r.1 ∧ M = [s_1] ∧ DOwn (DK.sl (Kd.int .i64) 2) 25 J A150 c151 r.2 s_1 ∧ r.2.length = p149.length) := by
  have hle := ImmLe.refl I0
  unfold laws_markInt64SS at H
  refine fn_intro (fn := Try.f37) 19 Try.func37 rfl rfl rfl (fun E Fs => ?_)
  refine at_seq ?_
  refine at_reg [] [0, 1] (L2 := [(0, .slice A150 p149.length c151), (1, .int .i64 p154)]) (obs := []) (by kernel_rfl) ?_ ?_
  · intro w hs; exact trivial
  refine at_thn ?_
  refine at_seq ?_
  refine at_seq ?_
  refine at_reg [] [0, 1, 5] (L2 := [(0, .slice A150 p149.length c151), (1, .int .i64 p154), (5, .int .i64 0)]) (obs := []) (by kernel_rfl) ?_ ?_
  · intro w hs; exact trivial
  refine at_thn ?_
  refine at_block ?_
  refine at_keep [0, 1, 5] (L2 := [(0, .slice A150 p149.length c151), (1, .int .i64 p154), (5, .int .i64 0)]) rfl ?_
  refine at_loop (fun k162 L I Ms => ∃ (x155 : List (List Int)) (s158 : Seg) (x160 : Int) (x161 : Int), L = [(0, .slice A150 x155.length c151), (1, .int .i64 x160), (5, .int .i64 x161)] ∧ Ms = (s158 :: Fs) ∧ laws_markInt64SS_l0 k162 x155 x160 x161 p149 = some r ∧ ImmLe I0 I ∧ k162 ≤ k ∧ DOwn (DK.sl (Kd.int .i64) 2) 25 I A150 c151 x155 s158) ?_ ?_ k ⟨p149, s152, p154, 0, rfl, rfl, H, hle, Nat.le_refl _, ho153⟩
  · rintro L I Ms ⟨_, _, _, _, rfl, rfl, H, _⟩; exact no_none H
  · clear H hle ho153
    intro k162 ih163 L I Ms h_; obtain ⟨x155, s158, x160, x161, hL_, hM_, H, hle, hk164, ho159⟩ := h_; rw [hL_, hM_]; clear hL_ hM_ L Ms
    rw [laws_markInt64SS_l0] at H
    refine at_seq ?_
    refine at_seq ?_
    refine at_reg [] [0, 1, 5, 9] (L2 := [(0, .slice A150 x155.length c151), (1, .int .i64 x160), (5, .int .i64 x161), (9, .bool (decide (x161 < (x155.length : Int))))]) (obs := []) (by kernel_rfl) ?_ ?_
    · intro w hs; exact trivial
    refine at_thn ?_
    by_cases h165 : x161 < (x155.length : Int)
    · rw [if_pos h165] at H
      refine at_cond_t rfl (decide_eq_true h165) ?_
      refine at_skip ?_
      refine at_thn ?_
      refine at_seq ?_
      refine at_block ?_
      refine at_ops [0, 1, 2, 3, 4, 5, 6] rfl ?_
      obtain ⟨h166, H⟩ := ite_some H
      obtain ⟨A167, c168, hd169⟩ := ho159.at [] x161 h166 h165
      have hc170 := hd169.cells
      have hi171 : OwnIn (Kd.int .i64) 2 I A167 c168 (rdA [] x155 x161) s158 := hd169.inn
      refine at_seg [0, 1, 2, 3, 4] [5, 6] rfl [(3, .slice A167 (rdA [] x155 x161).length c168)] [0, 1, 5, 15, 16] (L2 := [(0, .slice A150 x155.length c151), (1, .int .i64 x160), (5, .int .i64 x161), (15, .slice A167 (rdA [] x155 x161).length c168), (16, .int .i64 x160)]) (obs := [fun _ => A150.isSome = true ∧ 0 ≤ x161 ∧ x161 < ((x155.length : Nat) : Int), fun w => w.cell? ((A150.getD ad0).add (x161.toNat * 1)) = some (.slice A167 (rdA [] x155 x161).length c168)]) (by kernel_rfl) ?_ ?_
      · intro w hs; exact ⟨⟨ho159.ne x161 h166 h165, h166, h165⟩, cell0 (hc170 0 _ rfl hs (k := 0) rfl)⟩
      refine at_eff rfl rfl ?_
      refine at_focus (D := (DK.sl (Kd.int .i64) 2)) 0 hd169 rfl (fun s172 s174 ho173 hh175 => ?_)
      replace ho173 : Own (Kd.int .i64) 2 I A167 c168 (rdA [] x155 x161) s172 := ho173
      obtain ⟨b13, H176, H⟩ := bind_some H
      have hm_ := laws_markInt64S.calls (I0 := I) H176 ho173
      refine eff_call rfl rfl ok14 rfl rfl (show Meets Try.prog 14 ([.slice A167 (rdA [] x155 x161).length c168, .int .i64 x160] : List Value).toArray _ [s172] _ from hm_) (Mr := (s174 :: Fs)) (List.Perm.refl _) (fun v177 J178 M179 hq180 hJ181 => ?_)
      replace hle := hle.trans hJ181
      replace hd169 := hd169.mono hJ181
      replace hi171 := hi171.mono hJ181
      replace ho159 := ho159.mono hJ181
      replace hh175 := hh175.mono hJ181
      obtain ⟨s182, rfl, rfl, ho183, hl184⟩ := hq180
      have hd185 := hh175.close (y := b13.2) ((show ([.slice A167 b13.2.length c168] : List Value) = [.slice A167 (rdA [] x155 x161).length c168] from by rw [hl184])) ho183
      refine at_merge 0 0 rfl rfl rfl ?_
      have he186 : rdA [] (x155.set x161.toNat b13.2) x161 = b13.2 := rdA_set _ _ h166 h165
      have hd187 : DOwn (DK.sl (Kd.int .i64) 2) 25 J178 A150 c151 (x155.set x161.toNat b13.2) (s182 ++ s174) := hd185.own
      have hi188 : OwnIn (Kd.int .i64) 2 J178 A167 c168 b13.2 (s182 ++ s174) := by have h_ := hd185.inn; rw [he186] at h_; exact h_
      refine at_keep [0, 1, 5, 15, 16, 17] (L2 := [(0, .slice A150 x155.length c151), (1, .int .i64 x160), (5, .int .i64 x161), (15, .slice A167 (rdA [] x155 x161).length c168), (16, .int .i64 x160), (17, .int .i64 b13.1)]) rfl ?_
      refine at_eqL2 (L1 := [(0, .slice A150 x155.length c151), (1, .int .i64 x160), (5, .int .i64 x161), (15, .slice A167 (rdA [] x155 x161).length c168), (16, .int .i64 x160), (17, .int .i64 b13.1)]) (L2 := [(0, .slice A150 (x155.set x161.toNat b13.2).length c151), (1, .int .i64 x160), (5, .int .i64 x161), (15, .slice A167 b13.2.length c168), (16, .int .i64 x160), (17, .int .i64 b13.1)]) rfl (by simp only [List.length_set, hl184]) ?_
      have h189 : x161 < ((x155.set x161.toNat b13.2).length : Int) := by simp only [List.length_set]; exact h165
      refine at_seg [6] [] rfl [] [0, 1, 5] (L2 := [(0, .slice A150 (x155.set x161.toNat b13.2).length c151), (1, .int .i64 b13.1), (5, .int .i64 x161)]) (obs := []) (by kernel_rfl) ?_ ?_
      · intro w hs; exact trivial
      refine at_end ?_
      refine at_in_norm ?_
      refine at_thn ?_
      refine at_reg [] [0, 1, 5] (L2 := [(0, .slice A150 (x155.set x161.toNat b13.2).length c151), (1, .int .i64 b13.1), (5, .int .i64 (IntKind.i64.wrap (x161 + 1)))]) (obs := []) (by kernel_rfl) ?_ ?_
      · intro w hs; exact trivial
      refine at_thn ?_
      refine at_keep [0, 1, 5] (L2 := [(0, .slice A150 (x155.set x161.toNat b13.2).length c151), (1, .int .i64 b13.1), (5, .int .i64 (IntKind.i64.wrap (x161 + 1)))]) rfl ?_
      exact ih163 _ (by omega) _ _ _ ⟨x155.set x161.toNat b13.2, (s182 ++ s174), b13.1, IntKind.i64.wrap (x161 + 1), rfl, rfl, H, hle, by omega, hd187⟩
    · rw [if_neg h165] at H
      refine at_cond_f rfl (decide_eq_false h165) ?_
      refine at_exit ?_
      refine at_then_exit ?_
      refine at_then_exit ?_
      refine at_in_hit ?_
      refine at_thn ?_
      refine at_seq ?_
      refine at_reg [] [0, 4] (L2 := [(0, .slice A150 x155.length c151), (4, .int .i64 x160)]) (obs := []) (by kernel_rfl) ?_ ?_
      · intro w hs; exact trivial
      refine at_thn ?_
      refine at_ret ?_
      obtain ⟨h190, H⟩ := ite_some H
      obtain rfl := Option.some.inj H
      refine at_done (vs := [.int .i64 x160]) (obs := []) (.inl rfl) [.tmp 4] [] rfl (by kernel_rfl) (fun w hs => trivial) (fun w hs => ⟨_, _, [s158], rfl, ⟨s158, rfl, rfl, ho159, h190⟩, hle, hs⟩)

/-! ### loop.example/g00146/laws.markRing: function 13 -/
def laws_markRing (k : Nat) (p143 : T_impl_Ring) (p148 : Int) : Option (Int × (List (List Int))) := (laws_markInt64SS k p143.Items p148).bind fun b13 => (if b13.2.length = p143.Items.length then (some (b13.1, b13.2)) else none)
set_option maxHeartbeats 4000000 in
set_option maxRecDepth 100000 in
theorem laws_markRing.calls {k : Nat} {p143 : T_impl_Ring} {p148 : Int} {r : Int × (List (List Int))} {I0 : Imm} {A144 : Option Addr} {c145 : Nat} {s146 : Seg} (H : laws_markRing k p143 p148 = some r) (ho147 : DOwn (DK.sl (Kd.int .i64) 2) 25 I0 A144 c145 p143.Items s146) :
    Meets Try.prog 13 ([.agg #[.slice A144 p143.Items.length c145, .int .i64 p143.At], .int .i64 p148] : List Value).toArray I0 [s146] (fun v J M => ∃ (s_1 : Seg), v = .int .i64 r.1 ∧ M = [s_1] ∧ DOwn (DK.sl (Kd.int .i64) 2) 25 J A144 c145 r.2 s_1 ∧ r.2.length = p143.Items.length) := by
  have hle := ImmLe.refl I0
  unfold laws_markRing at H
  refine fn_intro (fn := Try.f13) 10 Try.func13 rfl rfl rfl (fun E Fs => ?_)
  refine at_seq ?_
  refine at_ops [0, 1] rfl ?_
  refine at_eff rfl rfl ?_
  refine eff_box rfl rfl rfl #[.slice A144 p143.Items.length c145, .int .i64 p143.At] rfl (fun g149 => ?_)
  refine at_seg [1] [] rfl [] [0, 1, 2] (L2 := [(0, .agg #[.slice A144 p143.Items.length c145, .int .i64 p143.At]), (1, .int .i64 p148), (2, .pointer (some ⟨g149, 0, none⟩))]) (obs := []) (by kernel_rfl) ?_ ?_
  · intro w hs; exact trivial
  refine at_end ?_
  refine at_thn ?_
  refine at_seq ?_
  refine at_ops [0, 1, 2, 3, 4] rfl ?_
  refine at_seg [0, 1, 2] [3, 4] rfl [(1, .slice A144 p143.Items.length c145)] [0, 1, 6, 7] (L2 := [(0, .agg #[.slice A144 p143.Items.length c145, .int .i64 p143.At]), (1, .int .i64 p148), (6, .slice A144 p143.Items.length c145), (7, .int .i64 p148)]) (obs := [fun w => w.cell? ⟨g149, 0, none⟩ = some (.slice A144 p143.Items.length c145)]) (by kernel_rfl) ?_ ?_
  · intro w hs; exact hs.var (k := 0) rfl 0 rfl
  refine at_eff rfl rfl ?_
  obtain ⟨b13, H150, H⟩ := bind_some H
  have hm_ := laws_markInt64SS.calls (I0 := I0) H150 ho147
  refine eff_call rfl rfl ok37 rfl rfl (show Meets Try.prog 37 ([.slice A144 p143.Items.length c145, .int .i64 p148] : List Value).toArray _ [s146] _ from hm_) (Mr := ([(g149, .cells #[.slice A144 p143.Items.length c145, .int .i64 p143.At] 27 (0, 0))] :: Fs)) ((perm_at (k := 1) rfl).trans ((List.Perm.refl _).cons _)) (fun v151 J152 M153 hq154 hJ155 => ?_)
  replace hle := hle.trans hJ155
  replace ho147 := ho147.mono hJ155
  obtain ⟨s156, rfl, rfl, ho157, hl158⟩ := hq154
  refine at_keep [0, 1, 6, 7, 8] (L2 := [(0, .agg #[.slice A144 p143.Items.length c145, .int .i64 p143.At]), (1, .int .i64 p148), (6, .slice A144 p143.Items.length c145), (7, .int .i64 p148), (8, .int .i64 b13.1)]) rfl ?_
  refine at_eqL2 (L1 := [(0, .agg #[.slice A144 p143.Items.length c145, .int .i64 p143.At]), (1, .int .i64 p148), (6, .slice A144 p143.Items.length c145), (7, .int .i64 p148), (8, .int .i64 b13.1)]) (L2 := [(0, .agg #[.slice A144 b13.2.length c145, .int .i64 p143.At]), (1, .int .i64 p148), (6, .slice A144 b13.2.length c145), (7, .int .i64 p148), (8, .int .i64 b13.1)]) rfl (by rw [hl158]) ?_
  refine at_eqM (M1 := (s156 :: [(g149, .cells #[.slice A144 p143.Items.length c145, .int .i64 p143.At] 27 (0, 0))] :: Fs)) (M2 := (s156 :: [(g149, .cells #[.slice A144 b13.2.length c145, .int .i64 p143.At] 27 (0, 0))] :: Fs)) rfl (by rw [hl158]) ?_
  refine at_seg [4] [] rfl [] [0, 1] (L2 := [(0, .agg #[.slice A144 b13.2.length c145, .int .i64 p143.At]), (1, .int .i64 b13.1)]) (obs := []) (by kernel_rfl) ?_ ?_
  · intro w hs; exact trivial
  refine at_end ?_
  refine at_thn ?_
  refine at_seq ?_
  refine at_reg [] [0, 4] (L2 := [(0, .agg #[.slice A144 b13.2.length c145, .int .i64 p143.At]), (4, .int .i64 b13.1)]) (obs := []) (by kernel_rfl) ?_ ?_
  · intro w hs; exact trivial
  refine at_thn ?_
  refine at_ret ?_
  obtain ⟨h159, H⟩ := ite_some H
  obtain rfl := Option.some.inj H
  refine at_drop (k := 1) rfl rfl ?_
  refine at_done (vs := [.int .i64 b13.1]) (obs := []) (.inl rfl) [.tmp 4] [] rfl (by kernel_rfl) (fun w hs => trivial) (fun w hs => ⟨_, _, [s156], rfl, ⟨s156, rfl, rfl, ho157, h159⟩, hle, hs⟩)

/-! ### loop.example/g00146/laws.heldInt64S: function 54 -/
def laws_heldInt64S_l0 : Nat → Int → Int → (List Int) → Option Int
  | 0, _, _, _ => none
  | k + 1, x198, x199, p193 => if x199 < (p193.length : Int) then (if 0 ≤ x199 then (if (rdA 0 p193 x199) = x198 then (laws_heldInt64S_l0 k (IntKind.i64.wrap (x198 + 1)) (IntKind.i64.wrap (x199 + 1)) p193) else (some (-1))) else none) else (some x198)
def laws_heldInt64S (k : Nat) (p193 : List Int) (p197 : Int) : Option Int := laws_heldInt64S_l0 k p197 0 p193
set_option maxHeartbeats 4000000 in
set_option maxRecDepth 100000 in
theorem laws_heldInt64S.calls {k : Nat} {p193 : List Int} {p197 : Int} {r : Int} {I0 : Imm} {A194 : Option Addr} {c195 : Nat} (H : laws_heldInt64S k p193 p197 = some r) (hr196 : Rd (Kd.int .i64) I0 A194 c195 p193) :
    Meets Try.prog 54 ([.slice A194 p193.length c195, .int .i64 p197] : List Value).toArray I0 [] (fun v J M => v = .int .i64 r ∧ M = []) := by
  have hle := ImmLe.refl I0
  unfold laws_heldInt64S at H
  refine fn_intro (fn := Try.f54) 21 Try.func54 rfl rfl rfl (fun E Fs => ?_)
  refine at_seq ?_
  refine at_reg [] [0, 1] (L2 := [(0, .slice A194 p193.length c195), (1, .int .i64 p197)]) (obs := []) (by kernel_rfl) ?_ ?_
  · intro w hs; exact trivial
  refine at_thn ?_
  refine at_seq ?_
  refine at_seq ?_
  refine at_reg [] [0, 1, 5] (L2 := [(0, .slice A194 p193.length c195), (1, .int .i64 p197), (5, .int .i64 0)]) (obs := []) (by kernel_rfl) ?_ ?_
  · intro w hs; exact trivial
  refine at_thn ?_
  refine at_block ?_
  refine at_keep [0, 1, 5] (L2 := [(0, .slice A194 p193.length c195), (1, .int .i64 p197), (5, .int .i64 0)]) rfl ?_
  refine at_loop (fun k200 L I Ms => ∃ (x198 : Int) (x199 : Int), L = [(0, .slice A194 p193.length c195), (1, .int .i64 x198), (5, .int .i64 x199)] ∧ Ms = ([] ++ Fs) ∧ laws_heldInt64S_l0 k200 x198 x199 p193 = some r ∧ ImmLe I0 I ∧ k200 ≤ k ∧ Rd (Kd.int .i64) I A194 c195 p193) ?_ ?_ k ⟨p197, 0, rfl, rfl, H, hle, Nat.le_refl _, hr196⟩
  · rintro L I Ms ⟨_, _, rfl, rfl, H, _⟩; exact no_none H
  · clear H hle hr196
    intro k200 ih201 L I Ms h_; obtain ⟨x198, x199, hL_, hM_, H, hle, hk202, hr196⟩ := h_; rw [hL_, hM_]; clear hL_ hM_ L Ms
    rw [laws_heldInt64S_l0] at H
    refine at_seq ?_
    refine at_seq ?_
    refine at_reg [] [0, 1, 5, 9] (L2 := [(0, .slice A194 p193.length c195), (1, .int .i64 x198), (5, .int .i64 x199), (9, .bool (decide (x199 < (p193.length : Int))))]) (obs := []) (by kernel_rfl) ?_ ?_
    · intro w hs; exact trivial
    refine at_thn ?_
    by_cases h203 : x199 < (p193.length : Int)
    · rw [if_pos h203] at H
      refine at_cond_t rfl (decide_eq_true h203) ?_
      refine at_skip ?_
      refine at_thn ?_
      refine at_seq ?_
      refine at_block ?_
      refine at_seq ?_
      refine at_seq ?_
      obtain ⟨h204, H⟩ := ite_some H
      refine at_reg [(3, .int .i64 (rdA 0 p193 x199))] [0, 1, 5, 17] (L2 := [(0, .slice A194 p193.length c195), (1, .int .i64 x198), (5, .int .i64 x199), (17, .bool ((rdA 0 p193 x199) != x198))]) (obs := [fun _ => A194.isSome = true ∧ 0 ≤ x199 ∧ x199 < ((p193.length : Nat) : Int), fun w => w.cell? ((A194.getD ad0).add (x199.toNat * 1)) = some (.int .i64 (rdA 0 p193 x199))]) (by kernel_rfl) ?_ ?_
      · intro w hs; exact ⟨⟨hr196.ne x199 h204 h203, h204, h203⟩, hr196.one 0 x199 h204 h203 hs⟩
      refine at_thn ?_
      by_cases h205 : (rdA 0 p193 x199) = x198
      · rw [if_pos h205] at H
        refine at_cond_f rfl (bne_eq_false_iff_eq.2 h205) ?_
        refine at_skip ?_
        refine at_thn ?_
        refine at_reg [] [0, 1, 5] (L2 := [(0, .slice A194 p193.length c195), (1, .int .i64 (IntKind.i64.wrap (x198 + 1))), (5, .int .i64 x199)]) (obs := []) (by kernel_rfl) ?_ ?_
        · intro w hs; exact trivial
        refine at_in_norm ?_
        refine at_thn ?_
        refine at_reg [] [0, 1, 5] (L2 := [(0, .slice A194 p193.length c195), (1, .int .i64 (IntKind.i64.wrap (x198 + 1))), (5, .int .i64 (IntKind.i64.wrap (x199 + 1)))]) (obs := []) (by kernel_rfl) ?_ ?_
        · intro w hs; exact trivial
        refine at_thn ?_
        refine at_keep [0, 1, 5] (L2 := [(0, .slice A194 p193.length c195), (1, .int .i64 (IntKind.i64.wrap (x198 + 1))), (5, .int .i64 (IntKind.i64.wrap (x199 + 1)))]) rfl ?_
        exact ih201 _ (by omega) _ _ _ ⟨IntKind.i64.wrap (x198 + 1), IntKind.i64.wrap (x199 + 1), rfl, rfl, H, hle, by omega, hr196⟩
      · rw [if_neg h205] at H
        refine at_cond_t rfl (bne_iff_ne.2 h205) ?_
        refine at_seq ?_
        refine at_reg [] [4] (L2 := [(4, .int .i64 (-1))]) (obs := []) (by kernel_rfl) ?_ ?_
        · intro w hs; exact trivial
        refine at_thn ?_
        refine at_ret ?_
        refine at_then_ret ?_
        refine at_in_ret ?_
        refine at_then_ret ?_
        refine at_then_ret ?_
        refine at_in_ret ?_
        refine at_then_ret ?_
        obtain rfl := Option.some.inj H
        refine at_done (vs := [.int .i64 (-1)]) (obs := []) (.inl rfl) [.tmp 4] [] rfl (by kernel_rfl) (fun w hs => trivial) (fun w hs => ⟨_, _, [], rfl, ⟨rfl, rfl⟩, hle, hs⟩)
    · rw [if_neg h203] at H
      refine at_cond_f rfl (decide_eq_false h203) ?_
      refine at_exit ?_
      refine at_then_exit ?_
      refine at_then_exit ?_
      refine at_in_hit ?_
      refine at_thn ?_
      refine at_seq ?_
      refine at_reg [] [4] (L2 := [(4, .int .i64 x198)]) (obs := []) (by kernel_rfl) ?_ ?_
      · intro w hs; exact trivial
      refine at_thn ?_
      refine at_ret ?_
      obtain rfl := Option.some.inj H
      refine at_done (vs := [.int .i64 x198]) (obs := []) (.inl rfl) [.tmp 4] [] rfl (by kernel_rfl) (fun w hs => trivial) (fun w hs => ⟨_, _, [], rfl, ⟨rfl, rfl⟩, hle, hs⟩)

/-! ### loop.example/g00146/laws.heldInt64SS: function 38 -/
def laws_heldInt64SS_l0 : Nat → Int → Int → (List (List Int)) → Option Int
  | 0, _, _, _ => none
  | k + 1, x185, x186, p180 => if x186 < (p180.length : Int) then (if 0 ≤ x186 then ((laws_heldInt64S k (rdA [] p180 x186) x185).bind fun b17 => (if b17 < 0 then (some (-1)) else (laws_heldInt64SS_l0 k b17 (IntKind.i64.wrap (x186 + 1)) p180))) else none) else (some x185)
def laws_heldInt64SS (k : Nat) (p180 : List (List Int)) (p184 : Int) : Option Int := laws_heldInt64SS_l0 k p184 0 p180
set_option maxHeartbeats 4000000 in
set_option maxRecDepth 100000 in
theorem laws_heldInt64SS.calls {k : Nat} {p180 : List (List Int)} {p184 : Int} {r : Int} {I0 : Imm} {A181 : Option Addr} {c182 : Nat} (H : laws_heldInt64SS k p180 p184 = some r) (hr183 : Rd (Kd.slice (Kd.int .i64)) I0 A181 c182 p180) :
    Meets Try.prog 38 ([.slice A181 p180.length c182, .int .i64 p184] : List Value).toArray I0 [] (fun v J M => v = .int .i64 r ∧ M = []) := by
  have hle := ImmLe.refl I0
  unfold laws_heldInt64SS at H
  refine fn_intro (fn := Try.f38) 21 Try.func38 rfl rfl rfl (fun E Fs => ?_)
  refine at_seq ?_
  refine at_reg [] [0, 1] (L2 := [(0, .slice A181 p180.length c182), (1, .int .i64 p184)]) (obs := []) (by kernel_rfl) ?_ ?_
  · intro w hs; exact trivial
  refine at_thn ?_
  refine at_seq ?_
  refine at_seq ?_
  refine at_reg [] [0, 1, 5] (L2 := [(0, .slice A181 p180.length c182), (1, .int .i64 p184), (5, .int .i64 0)]) (obs := []) (by kernel_rfl) ?_ ?_
  · intro w hs; exact trivial
  refine at_thn ?_
  refine at_block ?_
  refine at_keep [0, 1, 5] (L2 := [(0, .slice A181 p180.length c182), (1, .int .i64 p184), (5, .int .i64 0)]) rfl ?_
  refine at_loop (fun k187 L I Ms => ∃ (x185 : Int) (x186 : Int), L = [(0, .slice A181 p180.length c182), (1, .int .i64 x185), (5, .int .i64 x186)] ∧ Ms = ([] ++ Fs) ∧ laws_heldInt64SS_l0 k187 x185 x186 p180 = some r ∧ ImmLe I0 I ∧ k187 ≤ k ∧ Rd (Kd.slice (Kd.int .i64)) I A181 c182 p180) ?_ ?_ k ⟨p184, 0, rfl, rfl, H, hle, Nat.le_refl _, hr183⟩
  · rintro L I Ms ⟨_, _, rfl, rfl, H, _⟩; exact no_none H
  · clear H hle hr183
    intro k187 ih188 L I Ms h_; obtain ⟨x185, x186, hL_, hM_, H, hle, hk189, hr183⟩ := h_; rw [hL_, hM_]; clear hL_ hM_ L Ms
    rw [laws_heldInt64SS_l0] at H
    refine at_seq ?_
    refine at_seq ?_
    refine at_reg [] [0, 1, 5, 9] (L2 := [(0, .slice A181 p180.length c182), (1, .int .i64 x185), (5, .int .i64 x186), (9, .bool (decide (x186 < (p180.length : Int))))]) (obs := []) (by kernel_rfl) ?_ ?_
    · intro w hs; exact trivial
    refine at_thn ?_
    by_cases h190 : x186 < (p180.length : Int)
    · rw [if_pos h190] at H
      refine at_cond_t rfl (decide_eq_true h190) ?_
      refine at_skip ?_
      refine at_thn ?_
      refine at_seq ?_
      refine at_block ?_
      refine at_seq ?_
      refine at_ops [0, 1, 2, 3, 4, 5, 6] rfl ?_
      obtain ⟨h191, H⟩ := ite_some H
      obtain ⟨cs196, hz197, hc192⟩ := hr183.elem [] x186 h191 h190
      obtain ⟨A193, c194, rfl, hr195⟩ := hz197
      refine at_seg [0, 1, 2, 3, 4] [5, 6] rfl [(3, .slice A193 (rdA [] p180 x186).length c194)] [0, 1, 5, 15, 16] (L2 := [(0, .slice A181 p180.length c182), (1, .int .i64 x185), (5, .int .i64 x186), (15, .slice A193 (rdA [] p180 x186).length c194), (16, .int .i64 x185)]) (obs := [fun _ => A181.isSome = true ∧ 0 ≤ x186 ∧ x186 < ((p180.length : Nat) : Int), fun w => w.cell? ((A181.getD ad0).add (x186.toNat * 1)) = some (.slice A193 (rdA [] p180 x186).length c194)]) (by kernel_rfl) ?_ ?_
      · intro w hs; exact ⟨⟨hr183.ne x186 h191 h190, h191, h190⟩, cell0 (hc192 0 _ rfl hs)⟩
      refine at_eff rfl rfl ?_
      obtain ⟨b17, H198, H⟩ := bind_some H
      have hm_ := laws_heldInt64S.calls (I0 := I) H198 hr195
      refine eff_call rfl rfl ok54 rfl rfl (show Meets Try.prog 54 ([.slice A193 (rdA [] p180 x186).length c194, .int .i64 x185] : List Value).toArray _ [] _ from hm_) (Mr := (Fs)) (List.Perm.refl _) (fun v199 J200 M201 hq202 hJ203 => ?_)
      replace hle := hle.trans hJ203
      replace hr183 := hr183.mono hJ203
      replace hr195 := hr195.mono hJ203
      obtain ⟨rfl, rfl⟩ := hq202
      refine at_seg [6] [] rfl [] [0, 1, 5] (L2 := [(0, .slice A181 p180.length c182), (1, .int .i64 b17), (5, .int .i64 x186)]) (obs := []) (by kernel_rfl) ?_ ?_
      · intro w hs; exact trivial
      refine at_end ?_
      refine at_thn ?_
      refine at_seq ?_
      refine at_reg [] [0, 1, 5, 19] (L2 := [(0, .slice A181 p180.length c182), (1, .int .i64 b17), (5, .int .i64 x186), (19, .bool (decide (b17 < 0)))]) (obs := []) (by kernel_rfl) ?_ ?_
      · intro w hs; exact trivial
      refine at_thn ?_
      by_cases h204 : b17 < 0
      · rw [if_pos h204] at H
        refine at_cond_t rfl (decide_eq_true h204) ?_
        refine at_seq ?_
        refine at_reg [] [4] (L2 := [(4, .int .i64 (-1))]) (obs := []) (by kernel_rfl) ?_ ?_
        · intro w hs; exact trivial
        refine at_thn ?_
        refine at_ret ?_
        refine at_in_ret ?_
        refine at_then_ret ?_
        refine at_then_ret ?_
        refine at_in_ret ?_
        refine at_then_ret ?_
        obtain rfl := Option.some.inj H
        refine at_done (vs := [.int .i64 (-1)]) (obs := []) (.inl rfl) [.tmp 4] [] rfl (by kernel_rfl) (fun w hs => trivial) (fun w hs => ⟨_, _, [], rfl, ⟨rfl, rfl⟩, hle, hs⟩)
      · rw [if_neg h204] at H
        refine at_cond_f rfl (decide_eq_false h204) ?_
        refine at_skip ?_
        refine at_in_norm ?_
        refine at_thn ?_
        refine at_reg [] [0, 1, 5] (L2 := [(0, .slice A181 p180.length c182), (1, .int .i64 b17), (5, .int .i64 (IntKind.i64.wrap (x186 + 1)))]) (obs := []) (by kernel_rfl) ?_ ?_
        · intro w hs; exact trivial
        refine at_thn ?_
        refine at_keep [0, 1, 5] (L2 := [(0, .slice A181 p180.length c182), (1, .int .i64 b17), (5, .int .i64 (IntKind.i64.wrap (x186 + 1)))]) rfl ?_
        exact ih188 _ (by omega) _ _ _ ⟨b17, IntKind.i64.wrap (x186 + 1), rfl, rfl, H, hle, by omega, hr183⟩
    · rw [if_neg h190] at H
      refine at_cond_f rfl (decide_eq_false h190) ?_
      refine at_exit ?_
      refine at_then_exit ?_
      refine at_then_exit ?_
      refine at_in_hit ?_
      refine at_thn ?_
      refine at_seq ?_
      refine at_reg [] [4] (L2 := [(4, .int .i64 x185)]) (obs := []) (by kernel_rfl) ?_ ?_
      · intro w hs; exact trivial
      refine at_thn ?_
      refine at_ret ?_
      obtain rfl := Option.some.inj H
      refine at_done (vs := [.int .i64 x185]) (obs := []) (.inl rfl) [.tmp 4] [] rfl (by kernel_rfl) (fun w hs => trivial) (fun w hs => ⟨_, _, [], rfl, ⟨rfl, rfl⟩, hle, hs⟩)

/-! ### loop.example/g00146/laws.heldRing: function 15 -/
def laws_heldRing (k : Nat) (p174 : T_impl_Ring) (p178 : Int) : Option Int := (laws_heldInt64SS k p174.Items p178).bind fun b17 => (if b17 < 0 then (some (-1)) else (some b17))
set_option maxHeartbeats 4000000 in
set_option maxRecDepth 100000 in
theorem laws_heldRing.calls {k : Nat} {p174 : T_impl_Ring} {p178 : Int} {r : Int} {I0 : Imm} {A175 : Option Addr} {c176 : Nat} (H : laws_heldRing k p174 p178 = some r) (hr177 : Rd (Kd.slice (Kd.int .i64)) I0 A175 c176 p174.Items) :
    Meets Try.prog 15 ([.agg #[.slice A175 p174.Items.length c176, .int .i64 p174.At], .int .i64 p178] : List Value).toArray I0 [] (fun v J M => v = .int .i64 r ∧ M = []) := by
  have hle := ImmLe.refl I0
  unfold laws_heldRing at H
  refine fn_intro (fn := Try.f15) 12 Try.func15 rfl rfl rfl (fun E Fs => ?_)
  refine at_seq ?_
  refine at_ops [0, 1] rfl ?_
  refine at_eff rfl rfl ?_
  refine eff_box rfl rfl rfl #[.slice A175 p174.Items.length c176, .int .i64 p174.At] rfl (fun g179 => ?_)
  refine at_seg [1] [] rfl [] [1, 2] (L2 := [(1, .int .i64 p178), (2, .pointer (some ⟨g179, 0, none⟩))]) (obs := []) (by kernel_rfl) ?_ ?_
  · intro w hs; exact trivial
  refine at_end ?_
  refine at_thn ?_
  refine at_seq ?_
  refine at_ops [0, 1, 2, 3, 4] rfl ?_
  refine at_seg [0, 1, 2] [3, 4] rfl [(1, .slice A175 p174.Items.length c176)] [1, 6, 7] (L2 := [(1, .int .i64 p178), (6, .slice A175 p174.Items.length c176), (7, .int .i64 p178)]) (obs := [fun w => w.cell? ⟨g179, 0, none⟩ = some (.slice A175 p174.Items.length c176)]) (by kernel_rfl) ?_ ?_
  · intro w hs; exact hs.var (k := 0) rfl 0 rfl
  refine at_eff rfl rfl ?_
  obtain ⟨b17, H180, H⟩ := bind_some H
  have hm_ := laws_heldInt64SS.calls (I0 := I0) H180 hr177
  refine eff_call rfl rfl ok38 rfl rfl (show Meets Try.prog 38 ([.slice A175 p174.Items.length c176, .int .i64 p178] : List Value).toArray _ [] _ from hm_) (Mr := ([(g179, .cells #[.slice A175 p174.Items.length c176, .int .i64 p174.At] 27 (0, 0))] :: Fs)) (List.Perm.refl _) (fun v181 J182 M183 hq184 hJ185 => ?_)
  replace hle := hle.trans hJ185
  replace hr177 := hr177.mono hJ185
  obtain ⟨rfl, rfl⟩ := hq184
  refine at_seg [4] [] rfl [] [1] (L2 := [(1, .int .i64 b17)]) (obs := []) (by kernel_rfl) ?_ ?_
  · intro w hs; exact trivial
  refine at_end ?_
  refine at_thn ?_
  refine at_seq ?_
  refine at_seq ?_
  refine at_reg [] [1, 10] (L2 := [(1, .int .i64 b17), (10, .bool (decide (b17 < 0)))]) (obs := []) (by kernel_rfl) ?_ ?_
  · intro w hs; exact trivial
  refine at_thn ?_
  by_cases h186 : b17 < 0
  · rw [if_pos h186] at H
    refine at_cond_t rfl (decide_eq_true h186) ?_
    refine at_seq ?_
    refine at_reg [] [4] (L2 := [(4, .int .i64 (-1))]) (obs := []) (by kernel_rfl) ?_ ?_
    · intro w hs; exact trivial
    refine at_thn ?_
    refine at_ret ?_
    refine at_then_ret ?_
    obtain rfl := Option.some.inj H
    refine at_drop (k := 0) rfl rfl ?_
    refine at_done (vs := [.int .i64 (-1)]) (obs := []) (.inl rfl) [.tmp 4] [] rfl (by kernel_rfl) (fun w hs => trivial) (fun w hs => ⟨_, _, [], rfl, ⟨rfl, rfl⟩, hle, hs⟩)
  · rw [if_neg h186] at H
    refine at_cond_f rfl (decide_eq_false h186) ?_
    refine at_skip ?_
    refine at_thn ?_
    refine at_seq ?_
    refine at_reg [] [4] (L2 := [(4, .int .i64 b17)]) (obs := []) (by kernel_rfl) ?_ ?_
    · intro w hs; exact trivial
    refine at_thn ?_
    refine at_ret ?_
    obtain rfl := Option.some.inj H
    refine at_drop (k := 0) rfl rfl ?_
    refine at_done (vs := [.int .i64 b17]) (obs := []) (.inl rfl) [.tmp 4] [] rfl (by kernel_rfl) (fun w hs => trivial) (fun w hs => ⟨_, _, [], rfl, ⟨rfl, rfl⟩, hle, hs⟩)
end Go.Proofs.Ytabdhegmepaeiaa
