import Derived.Test.YtnhnipdanpcbeaaV8
namespace Go.Proofs.Ytnhnipdanpcbeaa
open Go Eng
set_option linter.unusedVariables false
set_option linter.unusedSimpArgs false
/-! ### loop.example/g00146/laws.lwCopy: function 7 -/
def laws_lwCopy (p2040 : List Int) : Option (List Int) := if ([] : List Int).length + p2040.length ≤ 17592186044416 then (some (([] : List Int) ++ p2040)) else none
set_option maxHeartbeats 4000000 in
set_option maxRecDepth 100000 in
theorem laws_lwCopy.calls {p2040 : List Int} {r : (List Int)} {I0 : Imm} {A2041 : Option Addr} {c2042 : Nat} (H : laws_lwCopy p2040 = some r) (hr2043 : Rd (Kd.int .i64) I0 A2041 c2042 p2040) :
    Meets Try.prog 7 ([.slice A2041 p2040.length c2042] : List Value).toArray I0 [] (fun v J M => ∃ (A_1 : Option Addr) (c_2 : Nat) (s_3 : Seg), v = .slice A_1 r.length c_2 ∧ M = [s_3] ∧ Own (Kd.int .i64) 2 J A_1 c_2 r s_3) := by
 have hle := ImmLe.refl I0
 unfold laws_lwCopy at H
 refine fn_intro (fn := Try.f7) 6 Try.func7 rfl rfl rfl (fun E Fs => ?_)
 refine at_seq (at_reg0 [] [0] [(0, .slice A2041 p2040.length c2042)] ?_)
 refine at_thn (at_seq (at_ops [0, 1, 2, 3] rfl ?_))
 refine at_eff rfl rfl ?_
 refine eff_buildSlice (e := 2) (cells := #[]) ([] : List Int).length rfl rfl rfl (by kernel_rfl) (fun g2044 => ?_)
 have ho2045 := own_lit (K := (Kd.int .i64)) (e := 2) (I := I0) (xs := ([] : List Int)) (css := []) (cells := #[]) (b := g2044) trivial rfl
 refine at_seg0 [1] [2, 3] [] [3, 4] [(3, .slice (some ⟨g2044, 0, none⟩ : Option Addr) ([] : List Int).length (([] : List Int).length)), (4, .slice A2041 p2040.length c2042)] ?_
 refine at_eff rfl rfl ?_
 obtain ⟨h2046, H⟩ := ite_some H
 obtain ⟨i_, hi_, hz_, hs_, hb_⟩ := info2
 refine eff_append (K := (Kd.int .i64)) (xs := ([] : List Int)) (ys := p2040) 0 rfl rfl rfl rfl rfl und23 und23 hi_ hz_ hs_ rfl rfl rfl ho2045 rfl (fun w hs => hr2043.rowAt hs) (by rw [hb_]; omega) (by omega) (fun A2047 c2048 s2049 ho2050 => ?_)
 refine at_seg0 [3] [] [] [2] [(2, .slice A2047 (([] : List Int) ++ p2040).length c2048)] ?_
 refine at_end (at_thn (at_ret ?_))
 obtain rfl := Option.some.inj H
 exact at_done0 [.slice A2047 (([] : List Int) ++ p2040).length c2048] (.inl rfl) [.tmp 2] fun w hs => ⟨_, _, [s2049], rfl, ⟨A2047, c2048, s2049, rfl, rfl, ho2050⟩, hle, hs⟩

/-! ### loop.example/g00146/impl.isMany: function 33 -/
def impl_isMany (p7053 : Int) : Option Bool := some (decide (p7053 > 400))
set_option maxHeartbeats 4000000 in
set_option maxRecDepth 100000 in
theorem impl_isMany.calls {p7053 : Int} {r : Bool} {I0 : Imm} (H : impl_isMany p7053 = some r) :
    Meets Try.prog 33 ([.int .i64 p7053] : List Value).toArray I0 [] (fun v J M => v = .bool r ∧ M = []) := by
 have hle := ImmLe.refl I0
 unfold impl_isMany at H
 refine fn_intro (fn := Try.f33) 5 Try.func33 rfl rfl rfl (fun E Fs => ?_)
 refine at_seq (at_reg0 [] [0] [(0, iV p7053)] ?_)
 refine at_thn (at_seq (at_reg0 [] [2] [(2, .bool (decide (p7053 > 400)))] ?_))
 refine at_thn (at_ret ?_)
 obtain rfl := Option.some.inj H
 exact at_done0 [.bool (decide (p7053 > 400))] (.inl rfl) [.tmp 2] fun w hs => ⟨_, _, [], rfl, ⟨rfl, rfl⟩, hle, hs⟩

/-! ### loop.example/g00146/impl.within: function 36 -/
def impl_within (p7087 : Int) (p7088 : Int) (p7089 : Int) : Option Bool := if p7088 ≤ p7087 then (some (decide (p7087 ≤ p7089))) else (some false)
set_option maxHeartbeats 4000000 in
set_option maxRecDepth 100000 in
theorem impl_within.calls {p7087 : Int} {p7088 : Int} {p7089 : Int} {r : Bool} {I0 : Imm} (H : impl_within p7087 p7088 p7089 = some r) :
    Meets Try.prog 36 ([.int .i64 p7087, .int .i64 p7088, .int .i64 p7089] : List Value).toArray I0 [] (fun v J M => v = .bool r ∧ M = []) := by
 have hle := ImmLe.refl I0
 unfold impl_within at H
 refine fn_intro (fn := Try.f36) 15 Try.func36 rfl rfl rfl (fun E Fs => ?_)
 refine at_seq (at_reg0 [] [0, 1, 2] [(0, iV p7087), (1, iV p7088), (2, iV p7089)] ?_)
 refine at_thn (at_seq ?_)
 by_cases h7090 : p7088 ≤ p7087
 ·
  rw [if_pos h7090] at H
  refine at_reg1 [(3, .bool true)] [6] [(6, .bool (decide (p7087 ≤ p7089)))] [oT (p7088 ≤ p7087)] (fun w hs => cT (h7090)) ?_
  refine at_thn (at_ret ?_)
  obtain rfl := Option.some.inj H
  exact at_done0 [.bool (decide (p7087 ≤ p7089))] (.inl rfl) [.tmp 6] fun w hs => ⟨_, _, [], rfl, ⟨rfl, rfl⟩, hle, hs⟩
 ·
  rw [if_neg h7090] at H
  refine at_reg1 [(3, .bool false)] [6] [(6, .bool false)] [oF (p7088 ≤ p7087)] (fun w hs => cF (h7090)) ?_
  refine at_thn (at_ret ?_)
  obtain rfl := Option.some.inj H
  exact at_done0 [.bool false] (.inl rfl) [.tmp 6] fun w hs => ⟨_, _, [], rfl, ⟨rfl, rfl⟩, hle, hs⟩

/-! ### loop.example/g00146/impl.isPoint: function 56 -/
def impl_isPoint (p7086 : Int) : Option Bool := (impl_within p7086 0 1114111).bind fun b5 => (if b5 = true then ((impl_within p7086 55296 57343).bind fun b6 => (some (!b6))) else (some false))
set_option maxHeartbeats 4000000 in
set_option maxRecDepth 100000 in
theorem impl_isPoint.calls {p7086 : Int} {r : Bool} {I0 : Imm} (H : impl_isPoint p7086 = some r) :
    Meets Try.prog 56 ([.int .i64 p7086] : List Value).toArray I0 [] (fun v J M => v = .bool r ∧ M = []) := by
 have hle := ImmLe.refl I0
 unfold impl_isPoint at H
 refine fn_intro (fn := Try.f56) 10 Try.func56 rfl rfl rfl (fun E Fs => ?_)
 refine at_seq (at_reg0 [] [0] [(0, iV p7086)] ?_)
 refine at_thn (at_seq (at_ops [0, 1, 2, 3, 4, 5, 6, 7] rfl ?_))
 refine at_seg0 [0] [1, 2, 3, 4, 5, 6, 7] [] [0, 3] [(0, iV p7086), (3, iV p7086)] ?_
 refine at_eff rfl rfl ?_
 obtain ⟨b5, H7087, H⟩ := bind_some H
 have hm_ := impl_within.calls (I0 := I0) H7087
 refine eff_call rfl rfl ok36 rfl rfl (show Meets Try.prog 36 ([iV p7086, iV 0, iV 1114111] : List Value).toArray _ [] _ from hm_) (Mr := (Fs)) (List.Perm.refl _) (fun v7088 J7089 M7090 hq7091 hJ7092 => ?_)
 replace hle := hle.trans hJ7092
 obtain ⟨rfl, rfl⟩ := hq7091
 by_cases h7093 : b5 = true
 ·
  rw [if_pos h7093] at H
  refine at_seg1 [2, 3] [4, 5, 6, 7] [(2, .bool true)] [5, 6] [(5, .bool true), (6, iV p7086)] [fun _ => (.bool b5 : Value) = .bool true] (fun w hs => congrArg Value.bool (h7093)) ?_
  refine at_eff rfl rfl ?_
  obtain ⟨b6, H7094, H⟩ := bind_some H
  have hm_ := impl_within.calls (I0 := J7089) H7094
  refine eff_call rfl rfl ok36 rfl rfl (show Meets Try.prog 36 ([iV p7086, iV 55296, iV 57343] : List Value).toArray _ [] _ from hm_) (Mr := (Fs)) (List.Perm.refl _) (fun v7095 J7096 M7097 hq7098 hJ7099 => ?_)
  replace hle := hle.trans hJ7099
  obtain ⟨rfl, rfl⟩ := hq7098
  refine at_seg0 [5, 6, 7] [] [] [2] [(2, .bool (!b6))] ?_
  refine at_end (at_thn (at_ret ?_))
  obtain rfl := Option.some.inj H
  exact at_done0 [.bool (!b6)] (.inl rfl) [.tmp 2] fun w hs => ⟨_, _, [], rfl, ⟨rfl, rfl⟩, hle, hs⟩
 ·
  rw [if_neg h7093] at H
  refine at_seg1 [2, 3] [4, 5, 6, 7] [(2, .bool false)] [5, 6] [(5, .bool false), (6, undef)] [fun _ => (.bool b5 : Value) = .bool false] (fun w hs => congrArg Value.bool (ff_of h7093)) ?_
  refine at_seg0 [4, 5, 6, 7] [] [] [2] [(2, .bool false)] ?_
  refine at_end (at_thn (at_ret ?_))
  obtain rfl := Option.some.inj H
  exact at_done0 [.bool false] (.inl rfl) [.tmp 2] fun w hs => ⟨_, _, [], rfl, ⟨rfl, rfl⟩, hle, hs⟩

/-! ### loop.example/g00146/impl.PointsRight$1: function 63 -/
def impl_PointsRight_1 (p7085 : Int) : Option Bool := (impl_isPoint p7085).bind fun b5 => (some (!b5))
set_option maxHeartbeats 4000000 in
set_option maxRecDepth 100000 in
theorem impl_PointsRight_1.calls {p7085 : Int} {r : Bool} {I0 : Imm} (H : impl_PointsRight_1 p7085 = some r) :
    Meets Try.prog 63 ([.int .i64 p7085] : List Value).toArray I0 [] (fun v J M => v = .bool r ∧ M = []) := by
 have hle := ImmLe.refl I0
 unfold impl_PointsRight_1 at H
 refine fn_intro (fn := Try.f63) 6 Try.func63 rfl rfl rfl (fun E Fs => ?_)
 refine at_seq (at_reg0 [] [0] [(0, iV p7085)] ?_)
 refine at_thn (at_seq (at_ops [0, 1, 2, 3] rfl ?_))
 refine at_seg0 [0] [1, 2, 3] [] [3] [(3, iV p7085)] ?_
 refine at_eff rfl rfl ?_
 obtain ⟨b5, H7086, H⟩ := bind_some H
 have hm_ := impl_isPoint.calls (I0 := I0) H7086
 refine eff_call rfl rfl ok56 rfl rfl (show Meets Try.prog 56 ([iV p7085] : List Value).toArray _ [] _ from hm_) (Mr := (Fs)) (List.Perm.refl _) (fun v7087 J7088 M7089 hq7090 hJ7091 => ?_)
 replace hle := hle.trans hJ7091
 obtain ⟨rfl, rfl⟩ := hq7090
 refine at_seg0 [2, 3] [] [] [2] [(2, .bool (!b5))] ?_
 refine at_end (at_thn (at_ret ?_))
 obtain rfl := Option.some.inj H
 exact at_done0 [.bool (!b5)] (.inl rfl) [.tmp 2] fun w hs => ⟨_, _, [], rfl, ⟨rfl, rfl⟩, hle, hs⟩

/-! ### slices.IndexFunc[[]int64,int64]: function 68 -/
def slices_IndexFunc_int64_int64_at_63_l0 : Nat → Int → (List Int) → Option Int
  | 0, _, _ => none
  | k + 1, x7083, p7079 => if x7083 < (p7079.length : Int) then (if 0 ≤ x7083 then ((impl_PointsRight_1 (rdA 0 p7079 x7083)).bind fun b5 => (if b5 = true then (some x7083) else (slices_IndexFunc_int64_int64_at_63_l0 k (IntKind.i64.wrap (x7083 + 1)) p7079))) else none) else (some (-1))
def slices_IndexFunc_int64_int64_at_63 (k : Nat) (p7079 : List Int) : Option Int := slices_IndexFunc_int64_int64_at_63_l0 k 0 p7079
set_option maxHeartbeats 4000000 in
set_option maxRecDepth 100000 in
theorem slices_IndexFunc_int64_int64_at_63.calls {k : Nat} {p7079 : List Int} {r : Int} {I0 : Imm} {A7080 : Option Addr} {c7081 : Nat} (H : slices_IndexFunc_int64_int64_at_63 k p7079 = some r) (hr7082 : Rd (Kd.int .i64) I0 A7080 c7081 p7079) :
    Meets Try.prog 68 ([.slice A7080 p7079.length c7081, .func (.func 63) #[] #[]] : List Value).toArray I0 [] (fun v J M => v = .int .i64 r ∧ M = []) := by
 have hle := ImmLe.refl I0
 unfold slices_IndexFunc_int64_int64_at_63 at H
 refine fn_intro (fn := Try.f68) 19 Try.func68 rfl rfl rfl (fun E Fs => ?_)
 refine at_seq (at_reg0 [] [0, 1] [(0, .slice A7080 p7079.length c7081), (1, .func (.func 63) #[] #[])] ?_)
 refine at_thn (at_seq (at_seq (at_reg0 [] [0, 1, 7, 8] [(0, .slice A7080 p7079.length c7081), (1, .func (.func 63) #[] #[]), (7, iV (p7079.length : Int)), (8, iV 0)] ?_)))
 refine at_thn (at_block (at_keep [0, 1, 7, 8] (L2 := [(0, .slice A7080 p7079.length c7081), (1, .func (.func 63) #[] #[]), (7, iV (p7079.length : Int)), (8, iV 0)]) rfl ?_))
 refine at_loop (fun k7084 L I Ms => ∃ (x7083 : Int), L = [(0, .slice A7080 p7079.length c7081), (1, .func (.func 63) #[] #[]), (7, iV (p7079.length : Int)), (8, iV x7083)] ∧ Ms = ([] ++ Fs) ∧ slices_IndexFunc_int64_int64_at_63_l0 k7084 x7083 p7079 = some r ∧ ImmLe I0 I ∧ k7084 ≤ k ∧ Rd (Kd.int .i64) I A7080 c7081 p7079) ?_ ?_ k ⟨0, rfl, rfl, H, hle, Nat.le_refl _, hr7082⟩
 · rintro L I Ms ⟨_, rfl, rfl, H, _⟩; exact no_none H
 ·
  clear H hle hr7082
  intro k7084 ih7085 L I Ms h_; obtain ⟨x7083, hL_, hM_, H, hle, hk7086, hr7082⟩ := h_; rw [hL_, hM_]; clear hL_ hM_ L Ms
  rw [slices_IndexFunc_int64_int64_at_63_l0] at H
  refine at_seq (at_reg0 [] [0, 1, 7, 8, 9] [(0, .slice A7080 p7079.length c7081), (1, .func (.func 63) #[] #[]), (7, iV (p7079.length : Int)), (8, iV x7083), (9, .bool (decide (x7083 < (p7079.length : Int))))] ?_)
  refine at_thn (at_seq ?_)
  by_cases h7087 : x7083 < (p7079.length : Int)
  ·
   rw [if_pos h7087] at H
   refine at_cond_t rfl (decide_eq_true h7087) ?_
   refine at_skip (at_thn (at_seq (at_block (at_seq (at_reg0 [] [0, 1, 5, 7, 8] [(0, .slice A7080 p7079.length c7081), (1, .func (.func 63) #[] #[]), (5, iV x7083), (7, iV (p7079.length : Int)), (8, iV x7083)] ?_)))))
   refine at_thn (at_seq (at_ops [0, 1, 2, 3, 4, 5] rfl ?_))
   obtain ⟨h7088, H⟩ := ite_some H
   refine at_seg1 [0, 1, 2, 3, 4] [5] [(4, iV (rdA 0 p7079 x7083))] [0, 1, 5, 7, 8, 11, 15] [(0, .slice A7080 p7079.length c7081), (1, .func (.func 63) #[] #[]), (5, iV x7083), (7, iV (p7079.length : Int)), (8, iV x7083), (11, .func (.func 63) #[] #[]), (15, iV (rdA 0 p7079 x7083))] [fun _ => A7080.isSome = true ∧ 0 ≤ x7083 ∧ x7083 < ((p7079.length : Nat) : Int), fun w => w.cell? ((A7080.getD ad0).add (x7083.toNat * 1)) = some (iV (rdA 0 p7079 x7083))] (fun w hs => ⟨⟨hr7082.ne x7083 h7088 h7087, h7088, h7087⟩, hr7082.one 0 x7083 h7088 h7087 hs⟩) ?_
   refine at_eff rfl rfl ?_
   obtain ⟨b5, H7089, H⟩ := bind_some H
   have hm_ := impl_PointsRight_1.calls (I0 := I) H7089
   refine eff_callv (first := []) (captured := []) rfl rfl rfl ok63 rfl rfl (hm_) (Mr := (Fs)) (List.Perm.refl _) (fun v7090 J7091 M7092 hq7093 hJ7094 => ?_)
   replace hle := hle.trans hJ7094
   replace hr7082 := hr7082.mono hJ7094
   obtain ⟨rfl, rfl⟩ := hq7093
   refine at_end (at_thn ?_)
   by_cases h7095 : b5 = true
   ·
    rw [if_pos h7095] at H
    refine at_cond_t rfl (h7095) ?_
    refine at_seq (at_reg0 [] [4] [(4, iV x7083)] ?_)
    refine at_thn (at_ret (at_in_ret (at_then_ret (at_then_ret (at_in_ret (at_then_ret ?_))))))
    obtain rfl := Option.some.inj H
    exact at_done0 [iV x7083] (.inl rfl) [.tmp 4] fun w hs => ⟨_, _, [], rfl, ⟨rfl, rfl⟩, hle, hs⟩
   ·
    rw [if_neg h7095] at H
    refine at_cond_f rfl (ff_of h7095) ?_
    refine at_skip (at_in_norm (at_thn (at_reg0 [] [0, 1, 7, 8] [(0, .slice A7080 p7079.length c7081), (1, .func (.func 63) #[] #[]), (7, iV (p7079.length : Int)), (8, iV (IntKind.i64.wrap (x7083 + 1)))] ?_)))
    refine at_thn (at_keep [0, 1, 7, 8] (L2 := [(0, .slice A7080 p7079.length c7081), (1, .func (.func 63) #[] #[]), (7, iV (p7079.length : Int)), (8, iV (IntKind.i64.wrap (x7083 + 1)))]) rfl ?_)
    exact ih7085 _ (by omega) _ _ _ ⟨IntKind.i64.wrap (x7083 + 1), rfl, rfl, H, hle, by omega, hr7082⟩
  ·
   rw [if_neg h7087] at H
   refine at_cond_f rfl (decide_eq_false h7087) ?_
   refine at_exit (at_then_exit (at_then_exit (at_in_hit (at_thn (at_seq (at_reg0 [] [4] [(4, iV (-1))] ?_))))))
   refine at_thn (at_ret ?_)
   obtain rfl := Option.some.inj H
   exact at_done0 [iV (-1)] (.inl rfl) [.tmp 4] fun w hs => ⟨_, _, [], rfl, ⟨rfl, rfl⟩, hle, hs⟩

/-! ### slices.ContainsFunc[[]int64,int64]: function 62 -/
def slices_ContainsFunc_int64_int64_at_63 (k : Nat) (p7075 : List Int) : Option Bool := (slices_IndexFunc_int64_int64_at_63 k p7075).bind fun b5 => (some (decide (b5 ≥ 0)))
set_option maxHeartbeats 4000000 in
set_option maxRecDepth 100000 in
theorem slices_ContainsFunc_int64_int64_at_63.calls {k : Nat} {p7075 : List Int} {r : Bool} {I0 : Imm} {A7076 : Option Addr} {c7077 : Nat} (H : slices_ContainsFunc_int64_int64_at_63 k p7075 = some r) (hr7078 : Rd (Kd.int .i64) I0 A7076 c7077 p7075) :
    Meets Try.prog 62 ([.slice A7076 p7075.length c7077, .func (.func 63) #[] #[]] : List Value).toArray I0 [] (fun v J M => v = .bool r ∧ M = []) := by
 have hle := ImmLe.refl I0
 unfold slices_ContainsFunc_int64_int64_at_63 at H
 refine fn_intro (fn := Try.f62) 9 Try.func62 rfl rfl rfl (fun E Fs => ?_)
 refine at_seq (at_reg0 [] [0, 1] [(0, .slice A7076 p7075.length c7077), (1, .func (.func 63) #[] #[])] ?_)
 refine at_thn (at_seq (at_ops [0, 1, 2, 3, 4] rfl ?_))
 refine at_seg0 [0, 1] [2, 3, 4] [] [5, 6] [(5, .slice A7076 p7075.length c7077), (6, .func (.func 63) #[] #[])] ?_
 refine at_eff rfl rfl ?_
 obtain ⟨b5, H7079, H⟩ := bind_some H
 have hm_ := slices_IndexFunc_int64_int64_at_63.calls (I0 := I0) H7079 hr7078
 refine eff_call rfl rfl ok68 rfl rfl (show Meets Try.prog 68 ([.slice A7076 p7075.length c7077, .func (.func 63) #[] #[]] : List Value).toArray _ [] _ from hm_) (Mr := (Fs)) (List.Perm.refl _) (fun v7080 J7081 M7082 hq7083 hJ7084 => ?_)
 replace hle := hle.trans hJ7084
 replace hr7078 := hr7078.mono hJ7084
 obtain ⟨rfl, rfl⟩ := hq7083
 refine at_seg0 [3, 4] [] [] [4] [(4, .bool (decide (b5 ≥ 0)))] ?_
 refine at_end (at_thn (at_ret ?_))
 obtain rfl := Option.some.inj H
 exact at_done0 [.bool (decide (b5 ≥ 0))] (.inl rfl) [.tmp 4] fun w hs => ⟨_, _, [], rfl, ⟨rfl, rfl⟩, hle, hs⟩

/-! ### loop.example/g00146/impl.PointsRight: function 45 -/
def impl_PointsRight (k : Nat) (p7070 : List Int) : Option Bool := if (p7070.length : Int) ≤ 300 then ((slices_ContainsFunc_int64_int64_at_63 k p7070).bind fun b5 => (some (!b5))) else (some false)
set_option maxHeartbeats 4000000 in
set_option maxRecDepth 100000 in
theorem impl_PointsRight.calls {k : Nat} {p7070 : List Int} {r : Bool} {I0 : Imm} {A7071 : Option Addr} {c7072 : Nat} (H : impl_PointsRight k p7070 = some r) (hr7073 : Rd (Kd.int .i64) I0 A7071 c7072 p7070) :
    Meets Try.prog 45 ([.slice A7071 p7070.length c7072] : List Value).toArray I0 [] (fun v J M => v = .bool r ∧ M = []) := by
 have hle := ImmLe.refl I0
 unfold impl_PointsRight at H
 refine fn_intro (fn := Try.f45) 11 Try.func45 rfl rfl rfl (fun E Fs => ?_)
 refine at_seq (at_reg0 [] [0] [(0, .slice A7071 p7070.length c7072)] ?_)
 refine at_thn (at_seq (at_ops [0, 1, 2, 3, 4, 5, 6, 7, 8] rfl ?_))
 by_cases h7074 : (p7070.length : Int) ≤ 300
 ·
  rw [if_pos h7074] at H
  refine at_seg1 [0, 1, 2, 3, 4] [5, 6, 7, 8] [(3, .bool true)] [6, 7] [(6, .bool true), (7, .slice A7071 p7070.length c7072)] [oT ((p7070.length : Int) ≤ 300)] (fun w hs => cT (h7074)) ?_
  refine at_eff rfl rfl ?_
  obtain ⟨b5, H7075, H⟩ := bind_some H
  have hm_ := slices_ContainsFunc_int64_int64_at_63.calls (I0 := I0) H7075 hr7073
  refine eff_call rfl rfl ok62 rfl rfl (show Meets Try.prog 62 ([.slice A7071 p7070.length c7072, .func (.func 63) #[] #[]] : List Value).toArray _ [] _ from hm_) (Mr := (Fs)) (List.Perm.refl _) (fun v7076 J7077 M7078 hq7079 hJ7080 => ?_)
  replace hle := hle.trans hJ7080
  replace hr7073 := hr7073.mono hJ7080
  obtain ⟨rfl, rfl⟩ := hq7079
  refine at_seg0 [6, 7, 8] [] [] [2] [(2, .bool (!b5))] ?_
  refine at_end (at_thn (at_ret ?_))
  obtain rfl := Option.some.inj H
  exact at_done0 [.bool (!b5)] (.inl rfl) [.tmp 2] fun w hs => ⟨_, _, [], rfl, ⟨rfl, rfl⟩, hle, hs⟩
 ·
  rw [if_neg h7074] at H
  refine at_seg1 [0, 1, 2, 3, 4] [5, 6, 7, 8] [(3, .bool false)] [6, 7] [(6, .bool false), (7, undef)] [oF ((p7070.length : Int) ≤ 300)] (fun w hs => cF (h7074)) ?_
  refine at_seg0 [5, 6, 7, 8] [] [] [2] [(2, .bool false)] ?_
  refine at_end (at_thn (at_ret ?_))
  obtain rfl := Option.some.inj H
  exact at_done0 [.bool false] (.inl rfl) [.tmp 2] fun w hs => ⟨_, _, [], rfl, ⟨rfl, rfl⟩, hle, hs⟩

/-! ### loop.example/g00146/impl.size[int64]: function 54 -/
def impl_size_int64 (p7095 : List Int) : Option Int := some (p7095.length : Int)
set_option maxHeartbeats 4000000 in
set_option maxRecDepth 100000 in
theorem impl_size_int64.calls {p7095 : List Int} {r : Int} {I0 : Imm} {A7096 : Option Addr} {c7097 : Nat} (H : impl_size_int64 p7095 = some r) (hr7098 : Rd (Kd.int .i64) I0 A7096 c7097 p7095) :
    Meets Try.prog 54 ([.slice A7096 p7095.length c7097] : List Value).toArray I0 [] (fun v J M => v = .int .i64 r ∧ M = []) := by
 have hle := ImmLe.refl I0
 unfold impl_size_int64 at H
 refine fn_intro (fn := Try.f54) 5 Try.func54 rfl rfl rfl (fun E Fs => ?_)
 refine at_seq (at_reg0 [] [0] [(0, .slice A7096 p7095.length c7097)] ?_)
 refine at_thn (at_seq (at_reg0 [] [2] [(2, iV (p7095.length : Int))] ?_))
 refine at_thn (at_ret ?_)
 obtain rfl := Option.some.inj H
 exact at_done0 [iV (p7095.length : Int)] (.inl rfl) [.tmp 2] fun w hs => ⟨_, _, [], rfl, ⟨rfl, rfl⟩, hle, hs⟩

/-! ### (*loop.example/g00146/impl.Buf).isPlace: function 28 -/
def impl_Buf_isPlace (p7090 : T_impl_Buf) (p7094 : Int) : Option Bool := (impl_size_int64 p7090.Points).bind fun b7 => ((impl_within p7094 0 b7).bind fun b8 => (some b8))
set_option maxHeartbeats 4000000 in
set_option maxRecDepth 100000 in
theorem impl_Buf_isPlace.calls {p7090 : T_impl_Buf} {p7094 : Int} {r : Bool} {I0 : Imm} {g7089 : Nat} {A7091 : Option Addr} {c7092 : Nat} (H : impl_Buf_isPlace p7090 p7094 = some r) (hr7093 : Rd (Kd.int .i64) I0 A7091 c7092 p7090.Points) :
    Meets Try.prog 28 ([.pointer (some ⟨g7089, 0, none⟩), .int .i64 p7094] : List Value).toArray I0 [[(g7089, .cells #[.slice A7091 p7090.Points.length c7092, .int .i64 p7090.Cursor, .int .i64 p7090.Mark] 25 (0, 0))]] (fun v J M => v = .bool r ∧ M = [[(g7089, .cells #[.slice A7091 p7090.Points.length c7092, .int .i64 p7090.Cursor, .int .i64 p7090.Mark] 25 (0, 0))]]) := by
 have hle := ImmLe.refl I0
 unfold impl_Buf_isPlace at H
 refine fn_intro (fn := Try.f28) 12 Try.func28 rfl rfl rfl (fun E Fs => ?_)
 refine at_seq (at_reg0 [] [0, 1] [(0, .pointer (some ⟨g7089, 0, none⟩)), (1, iV p7094)] ?_)
 refine at_thn (at_seq (at_ops [0, 1, 2, 3, 4, 5, 6, 7] rfl ?_))
 refine at_seg1 [0, 1, 2, 3, 4] [5, 6, 7] [(4, .slice A7091 p7090.Points.length c7092)] [5, 9] [(5, iV p7094), (9, .slice A7091 p7090.Points.length c7092)] [fun w => w.cell? ⟨g7089, 0, none⟩ = some (.slice A7091 p7090.Points.length c7092)] (fun w hs => hs.var (k := 0) rfl 0 rfl) ?_
 refine at_eff rfl rfl ?_
 obtain ⟨b7, H7095, H⟩ := bind_some H
 have hm_ := impl_size_int64.calls (I0 := I0) H7095 hr7093
 refine eff_call rfl rfl ok54 rfl rfl (show Meets Try.prog 54 ([.slice A7091 p7090.Points.length c7092] : List Value).toArray _ [] _ from hm_) (Mr := ([(g7089, .cells #[.slice A7091 p7090.Points.length c7092, iV p7090.Cursor, iV p7090.Mark] 25 (0, 0))] :: Fs)) (List.Perm.refl _) (fun v7096 J7097 M7098 hq7099 hJ7100 => ?_)
 replace hle := hle.trans hJ7100
 replace hr7093 := hr7093.mono hJ7100
 obtain ⟨rfl, rfl⟩ := hq7099
 refine at_eff rfl rfl ?_
 obtain ⟨b8, H7101, H⟩ := bind_some H
 have hm_ := impl_within.calls (I0 := J7097) H7101
 refine eff_call rfl rfl ok36 rfl rfl (show Meets Try.prog 36 ([iV p7094, iV 0, iV b7] : List Value).toArray _ [] _ from hm_) (Mr := ([(g7089, .cells #[.slice A7091 p7090.Points.length c7092, iV p7090.Cursor, iV p7090.Mark] 25 (0, 0))] :: Fs)) (List.Perm.refl _) (fun v7102 J7103 M7104 hq7105 hJ7106 => ?_)
 replace hle := hle.trans hJ7106
 replace hr7093 := hr7093.mono hJ7106
 obtain ⟨rfl, rfl⟩ := hq7105
 refine at_seg0 [7] [] [] [4] [(4, .bool b8)] ?_
 refine at_end (at_thn (at_ret ?_))
 obtain rfl := Option.some.inj H
 exact at_done0 [.bool b8] (.inl rfl) [.tmp 4] fun w hs => ⟨_, _, [[(g7089, .cells #[.slice A7091 p7090.Points.length c7092, iV p7090.Cursor, iV p7090.Mark] 25 (0, 0))]], rfl, ⟨rfl, rfl⟩, hle, hs⟩

/-! ### loop.example/g00146/impl.BufRight: function 46 -/
def impl_BufRight (k : Nat) (p7077 : T_impl_Buf) : Option Bool := (impl_PointsRight k p7077.Points).bind fun b6 => (if b6 = true then ((impl_Buf_isPlace p7077 p7077.Cursor).bind fun b7 => (if b7 = true then ((impl_Buf_isPlace p7077 p7077.Mark).bind fun b8 => (some b8)) else (some false))) else (some false))
set_option maxHeartbeats 4000000 in
set_option maxRecDepth 100000 in
theorem impl_BufRight.calls {k : Nat} {p7077 : T_impl_Buf} {r : Bool} {I0 : Imm} {A7078 : Option Addr} {c7079 : Nat} (H : impl_BufRight k p7077 = some r) (hr7080 : Rd (Kd.int .i64) I0 A7078 c7079 p7077.Points) :
    Meets Try.prog 46 ([.agg #[.slice A7078 p7077.Points.length c7079, .int .i64 p7077.Cursor, .int .i64 p7077.Mark]] : List Value).toArray I0 [] (fun v J M => v = .bool r ∧ M = []) := by
 have hle := ImmLe.refl I0
 unfold impl_BufRight at H
 refine fn_intro (fn := Try.f46) 16 Try.func46 rfl rfl rfl (fun E Fs => ?_)
 refine at_seq (at_ops [0, 1] rfl ?_)
 refine at_eff rfl rfl ?_
 refine eff_box rfl rfl rfl #[.slice A7078 p7077.Points.length c7079, iV p7077.Cursor, iV p7077.Mark] rfl (fun g7081 => ?_)
 refine at_seg0 [1] [] [] [1] [(1, .pointer (some ⟨g7081, 0, none⟩))] ?_
 refine at_end (at_thn (at_seq (at_ops [0, 1, 2, 3, 4, 5, 6, 7, 8, 9, 10, 11, 12, 13] rfl ?_)))
 refine at_seg1 [0, 1] [2, 3, 4, 5, 6, 7, 8, 9, 10, 11, 12, 13] [(1, .slice A7078 p7077.Points.length c7079)] [1, 4] [(1, .pointer (some ⟨g7081, 0, none⟩)), (4, .slice A7078 p7077.Points.length c7079)] [fun w => w.cell? ⟨g7081, 0, none⟩ = some (.slice A7078 p7077.Points.length c7079)] (fun w hs => hs.var (k := 0) rfl 0 rfl) ?_
 refine at_eff rfl rfl ?_
 obtain ⟨b6, H7082, H⟩ := bind_some H
 have hm_ := impl_PointsRight.calls (I0 := I0) H7082 hr7080
 refine eff_call rfl rfl ok45 rfl rfl (show Meets Try.prog 45 ([.slice A7078 p7077.Points.length c7079] : List Value).toArray _ [] _ from hm_) (Mr := ([(g7081, .cells #[.slice A7078 p7077.Points.length c7079, iV p7077.Cursor, iV p7077.Mark] 25 (0, 0))] :: Fs)) (List.Perm.refl _) (fun v7083 J7084 M7085 hq7086 hJ7087 => ?_)
 replace hle := hle.trans hJ7087
 replace hr7080 := hr7080.mono hJ7087
 obtain ⟨rfl, rfl⟩ := hq7086
 by_cases h7088 : b6 = true
 ·
  rw [if_pos h7088] at H
  refine at_seg1 [3, 4, 5] [6, 7, 8, 9, 10, 11, 12, 13] [(3, .bool true), (5, iV p7077.Cursor)] [1, 6, 8] [(1, .pointer (some ⟨g7081, 0, none⟩)), (6, .bool true), (8, iV p7077.Cursor)] [fun _ => (.bool b6 : Value) = .bool true, fun w => w.cell? ⟨g7081, 1, none⟩ = some (iV p7077.Cursor)] (fun w hs => ⟨congrArg Value.bool (h7088), hs.var (k := 0) rfl 1 rfl⟩) ?_
  refine at_eff rfl rfl ?_
  obtain ⟨b7, H7089, H⟩ := bind_some H
  refine eff_call rfl rfl ok28 rfl rfl (show Meets Try.prog 28 ([.pointer (some ⟨g7081, 0, none⟩), iV p7077.Cursor] : List Value).toArray _ [[(g7081, .cells #[.slice A7078 p7077.Points.length c7079, iV p7077.Cursor, iV p7077.Mark] 25 (0, 0))]] _ from impl_Buf_isPlace.calls H7089 hr7080) (Mr := (Fs)) (List.Perm.refl _) (fun v7090 J7091 M7092 hq7093 hJ7094 => ?_)
  replace hle := hle.trans hJ7094
  replace hr7080 := hr7080.mono hJ7094
  obtain ⟨rfl, rfl⟩ := hq7093
  by_cases h7095 : b7 = true
  ·
   rw [if_pos h7095] at H
   refine at_seg1 [7, 8, 9, 10] [11, 12, 13] [(8, .bool true), (10, iV p7077.Mark)] [1, 11, 13] [(1, .pointer (some ⟨g7081, 0, none⟩)), (11, .bool true), (13, iV p7077.Mark)] [fun _ => (.bool b7 : Value) = .bool true, fun w => w.cell? ⟨g7081, 2, none⟩ = some (iV p7077.Mark)] (fun w hs => ⟨congrArg Value.bool (h7095), hs.var (k := 0) rfl 2 rfl⟩) ?_
   refine at_eff rfl rfl ?_
   obtain ⟨b8, H7096, H⟩ := bind_some H
   refine eff_call rfl rfl ok28 rfl rfl (show Meets Try.prog 28 ([.pointer (some ⟨g7081, 0, none⟩), iV p7077.Mark] : List Value).toArray _ [[(g7081, .cells #[.slice A7078 p7077.Points.length c7079, iV p7077.Cursor, iV p7077.Mark] 25 (0, 0))]] _ from impl_Buf_isPlace.calls H7096 hr7080) (Mr := (Fs)) (List.Perm.refl _) (fun v7097 J7098 M7099 hq7100 hJ7101 => ?_)
   replace hle := hle.trans hJ7101
   replace hr7080 := hr7080.mono hJ7101
   obtain ⟨rfl, rfl⟩ := hq7100
   refine at_seg0 [12, 13] [] [] [2] [(2, .bool b8)] ?_
   refine at_end (at_thn (at_ret ?_))
   obtain rfl := Option.some.inj H
   refine at_drop (k := 0) rfl rfl ?_
   exact at_done0 [.bool b8] (.inl rfl) [.tmp 2] fun w hs => ⟨_, _, [], rfl, ⟨rfl, rfl⟩, hle, hs⟩
  ·
   rw [if_neg h7095] at H
   refine at_seg1 [7, 8, 9, 10] [11, 12, 13] [(8, .bool false)] [1, 11, 13] [(1, .pointer (some ⟨g7081, 0, none⟩)), (11, .bool false), (13, undef)] [fun _ => (.bool b7 : Value) = .bool false] (fun w hs => congrArg Value.bool (ff_of h7095)) ?_
   refine at_seg0 [11, 12, 13] [] [] [2] [(2, .bool false)] ?_
   refine at_end (at_thn (at_ret ?_))
   obtain rfl := Option.some.inj H
   refine at_drop (k := 0) rfl rfl ?_
   exact at_done0 [.bool false] (.inl rfl) [.tmp 2] fun w hs => ⟨_, _, [], rfl, ⟨rfl, rfl⟩, hle, hs⟩
 ·
  rw [if_neg h7088] at H
  refine at_seg1 [3, 4, 5] [6, 7, 8, 9, 10, 11, 12, 13] [(3, .bool false)] [1, 6, 8] [(1, .pointer (some ⟨g7081, 0, none⟩)), (6, .bool false), (8, undef)] [fun _ => (.bool b6 : Value) = .bool false] (fun w hs => congrArg Value.bool (ff_of h7088)) ?_
  refine at_seg0 [6, 7, 8, 9, 10] [11, 12, 13] [] [1, 11, 13] [(1, .pointer (some ⟨g7081, 0, none⟩)), (11, .bool false), (13, undef)] ?_
  refine at_seg0 [11, 12, 13] [] [] [2] [(2, .bool false)] ?_
  refine at_end (at_thn (at_ret ?_))
  obtain rfl := Option.some.inj H
  refine at_drop (k := 0) rfl rfl ?_
  exact at_done0 [.bool false] (.inl rfl) [.tmp 2] fun w hs => ⟨_, _, [], rfl, ⟨rfl, rfl⟩, hle, hs⟩

/-! ### loop.example/g00146/impl.isCols: function 38 -/
def impl_isCols (p7084 : Int) : Option Bool := (impl_within p7084 2 80).bind fun b7 => (some b7)
set_option maxHeartbeats 4000000 in
set_option maxRecDepth 100000 in
theorem impl_isCols.calls {p7084 : Int} {r : Bool} {I0 : Imm} (H : impl_isCols p7084 = some r) :
    Meets Try.prog 38 ([.int .i64 p7084] : List Value).toArray I0 [] (fun v J M => v = .bool r ∧ M = []) := by
 have hle := ImmLe.refl I0
 unfold impl_isCols at H
 refine fn_intro (fn := Try.f38) 5 Try.func38 rfl rfl rfl (fun E Fs => ?_)
 refine at_seq (at_reg0 [] [0] [(0, iV p7084)] ?_)
 refine at_thn (at_seq (at_ops [0, 1, 2] rfl ?_))
 refine at_seg0 [0] [1, 2] [] [3] [(3, iV p7084)] ?_
 refine at_eff rfl rfl ?_
 obtain ⟨b7, H7085, H⟩ := bind_some H
 have hm_ := impl_within.calls (I0 := I0) H7085
 refine eff_call rfl rfl ok36 rfl rfl (show Meets Try.prog 36 ([iV p7084, iV 2, iV 80] : List Value).toArray _ [] _ from hm_) (Mr := (Fs)) (List.Perm.refl _) (fun v7086 J7087 M7088 hq7089 hJ7090 => ?_)
 replace hle := hle.trans hJ7090
 obtain ⟨rfl, rfl⟩ := hq7089
 refine at_seg0 [2] [] [] [2] [(2, .bool b7)] ?_
 refine at_end (at_thn (at_ret ?_))
 obtain rfl := Option.some.inj H
 exact at_done0 [.bool b7] (.inl rfl) [.tmp 2] fun w hs => ⟨_, _, [], rfl, ⟨rfl, rfl⟩, hle, hs⟩

/-! ### loop.example/g00146/impl.isViewed: function 21 -/
def impl_isViewed (k : Nat) (p7060 : List Int) (p7064 : T_impl_Buf) (p7068 : Int) : Option Bool := (impl_PointsRight k p7060).bind fun b5 => (if b5 = true then ((impl_BufRight k p7064).bind fun b6 => (if b6 = true then ((impl_isCols p7068).bind fun b7 => (some b7)) else (some false))) else (some false))
set_option maxHeartbeats 4000000 in
set_option maxRecDepth 100000 in
theorem impl_isViewed.calls {k : Nat} {p7060 : List Int} {p7064 : T_impl_Buf} {p7068 : Int} {r : Bool} {I0 : Imm} {A7061 : Option Addr} {c7062 : Nat} {A7065 : Option Addr} {c7066 : Nat} (H : impl_isViewed k p7060 p7064 p7068 = some r) (hr7063 : Rd (Kd.int .i64) I0 A7061 c7062 p7060) (hr7067 : Rd (Kd.int .i64) I0 A7065 c7066 p7064.Points) :
    Meets Try.prog 21 ([.slice A7061 p7060.length c7062, .agg #[.slice A7065 p7064.Points.length c7066, .int .i64 p7064.Cursor, .int .i64 p7064.Mark], .int .i64 p7068] : List Value).toArray I0 [] (fun v J M => v = .bool r ∧ M = []) := by
 have hle := ImmLe.refl I0
 unfold impl_isViewed at H
 refine fn_intro (fn := Try.f21) 17 Try.func21 rfl rfl rfl (fun E Fs => ?_)
 refine at_seq (at_ops [0, 1] rfl ?_)
 refine at_eff rfl rfl ?_
 refine eff_box rfl rfl rfl #[.slice A7065 p7064.Points.length c7066, iV p7064.Cursor, iV p7064.Mark] rfl (fun g7069 => ?_)
 refine at_seg0 [1] [] [] [0, 2, 4] [(0, .slice A7061 p7060.length c7062), (2, iV p7068), (4, .pointer (some ⟨g7069, 0, none⟩))] ?_
 refine at_end (at_thn (at_seq (at_ops [0, 1, 2, 3, 4, 5, 6, 7, 8, 9, 10] rfl ?_)))
 refine at_seg0 [0] [1, 2, 3, 4, 5, 6, 7, 8, 9, 10] [] [2, 4, 7] [(2, iV p7068), (4, .pointer (some ⟨g7069, 0, none⟩)), (7, .slice A7061 p7060.length c7062)] ?_
 refine at_eff rfl rfl ?_
 obtain ⟨b5, H7070, H⟩ := bind_some H
 have hm_ := impl_PointsRight.calls (I0 := I0) H7070 hr7063
 refine eff_call rfl rfl ok45 rfl rfl (show Meets Try.prog 45 ([.slice A7061 p7060.length c7062] : List Value).toArray _ [] _ from hm_) (Mr := ([(g7069, .cells #[.slice A7065 p7064.Points.length c7066, iV p7064.Cursor, iV p7064.Mark] 25 (0, 0))] :: Fs)) (List.Perm.refl _) (fun v7071 J7072 M7073 hq7074 hJ7075 => ?_)
 replace hle := hle.trans hJ7075
 replace hr7063 := hr7063.mono hJ7075
 replace hr7067 := hr7067.mono hJ7075
 obtain ⟨rfl, rfl⟩ := hq7074
 by_cases h7076 : b5 = true
 ·
  rw [if_pos h7076] at H
  refine at_seg1 [2, 3] [4, 5, 6, 7, 8, 9, 10] [(2, .bool true), (3, .agg #[.slice A7065 p7064.Points.length c7066, iV p7064.Cursor, iV p7064.Mark])] [2, 9, 10] [(2, iV p7068), (9, .bool true), (10, .agg #[.slice A7065 p7064.Points.length c7066, iV p7064.Cursor, iV p7064.Mark])] [fun _ => (.bool b5 : Value) = .bool true, fun w => CellsAt w ⟨g7069, 0, none⟩ [.slice A7065 p7064.Points.length c7066, iV p7064.Cursor, iV p7064.Mark] 0] (fun w hs => ⟨congrArg Value.bool (h7076), cellsV (k := 0) hs rfl _ 0 (Nat.le_of_ble_eq_true (by kernel_rfl)) rfl⟩) ?_
  refine at_eff rfl rfl ?_
  obtain ⟨b6, H7077, H⟩ := bind_some H
  have hm_ := impl_BufRight.calls (I0 := J7072) H7077 hr7067
  refine eff_call rfl rfl ok46 rfl rfl (show Meets Try.prog 46 ([.agg #[.slice A7065 p7064.Points.length c7066, iV p7064.Cursor, iV p7064.Mark]] : List Value).toArray _ [] _ from hm_) (Mr := ([(g7069, .cells #[.slice A7065 p7064.Points.length c7066, iV p7064.Cursor, iV p7064.Mark] 25 (0, 0))] :: Fs)) (List.Perm.refl _) (fun v7078 J7079 M7080 hq7081 hJ7082 => ?_)
  replace hle := hle.trans hJ7082
  replace hr7067 := hr7067.mono hJ7082
  obtain ⟨rfl, rfl⟩ := hq7081
  by_cases h7083 : b6 = true
  ·
   rw [if_pos h7083] at H
   refine at_seg1 [5, 6, 7] [8, 9, 10] [(6, .bool true)] [13, 14] [(13, .bool true), (14, iV p7068)] [fun _ => (.bool b6 : Value) = .bool true] (fun w hs => congrArg Value.bool (h7083)) ?_
   refine at_eff rfl rfl ?_
   obtain ⟨b7, H7084, H⟩ := bind_some H
   have hm_ := impl_isCols.calls (I0 := J7079) H7084
   refine eff_call rfl rfl ok38 rfl rfl (show Meets Try.prog 38 ([iV p7068] : List Value).toArray _ [] _ from hm_) (Mr := ([(g7069, .cells #[.slice A7065 p7064.Points.length c7066, iV p7064.Cursor, iV p7064.Mark] 25 (0, 0))] :: Fs)) (List.Perm.refl _) (fun v7085 J7086 M7087 hq7088 hJ7089 => ?_)
   replace hle := hle.trans hJ7089
   replace hr7067 := hr7067.mono hJ7089
   obtain ⟨rfl, rfl⟩ := hq7088
   refine at_seg0 [9, 10] [] [] [6] [(6, .bool b7)] ?_
   refine at_end (at_thn (at_ret ?_))
   obtain rfl := Option.some.inj H
   refine at_drop (k := 0) rfl rfl ?_
   exact at_done0 [.bool b7] (.inl rfl) [.tmp 6] fun w hs => ⟨_, _, [], rfl, ⟨rfl, rfl⟩, hle, hs⟩
  ·
   rw [if_neg h7083] at H
   refine at_seg1 [5, 6, 7] [8, 9, 10] [(6, .bool false)] [13, 14] [(13, .bool false), (14, undef)] [fun _ => (.bool b6 : Value) = .bool false] (fun w hs => congrArg Value.bool (ff_of h7083)) ?_
   refine at_seg0 [8, 9, 10] [] [] [6] [(6, .bool false)] ?_
   refine at_end (at_thn (at_ret ?_))
   obtain rfl := Option.some.inj H
   refine at_drop (k := 0) rfl rfl ?_
   exact at_done0 [.bool false] (.inl rfl) [.tmp 6] fun w hs => ⟨_, _, [], rfl, ⟨rfl, rfl⟩, hle, hs⟩
 ·
  rw [if_neg h7076] at H
  refine at_seg1 [2, 3] [4, 5, 6, 7, 8, 9, 10] [(2, .bool false)] [2, 9, 10] [(2, iV p7068), (9, .bool false), (10, undef)] [fun _ => (.bool b5 : Value) = .bool false] (fun w hs => congrArg Value.bool (ff_of h7076)) ?_
  refine at_seg0 [4, 5, 6, 7] [8, 9, 10] [] [13, 14] [(13, .bool false), (14, undef)] ?_
  refine at_seg0 [8, 9, 10] [] [] [6] [(6, .bool false)] ?_
  refine at_end (at_thn (at_ret ?_))
  obtain rfl := Option.some.inj H
  refine at_drop (k := 0) rfl rfl ?_
  exact at_done0 [.bool false] (.inl rfl) [.tmp 6] fun w hs => ⟨_, _, [], rfl, ⟨rfl, rfl⟩, hle, hs⟩

/-! ### loop.example/g00146/impl.isRows: function 34 -/
def impl_isRows (p7067 : Int) : Option Bool := (impl_within p7067 1 24).bind fun b6 => (some b6)
set_option maxHeartbeats 4000000 in
set_option maxRecDepth 100000 in
theorem impl_isRows.calls {p7067 : Int} {r : Bool} {I0 : Imm} (H : impl_isRows p7067 = some r) :
    Meets Try.prog 34 ([.int .i64 p7067] : List Value).toArray I0 [] (fun v J M => v = .bool r ∧ M = []) := by
 have hle := ImmLe.refl I0
 unfold impl_isRows at H
 refine fn_intro (fn := Try.f34) 5 Try.func34 rfl rfl rfl (fun E Fs => ?_)
 refine at_seq (at_reg0 [] [0] [(0, iV p7067)] ?_)
 refine at_thn (at_seq (at_ops [0, 1, 2] rfl ?_))
 refine at_seg0 [0] [1, 2] [] [3] [(3, iV p7067)] ?_
 refine at_eff rfl rfl ?_
 obtain ⟨b6, H7068, H⟩ := bind_some H
 have hm_ := impl_within.calls (I0 := I0) H7068
 refine eff_call rfl rfl ok36 rfl rfl (show Meets Try.prog 36 ([iV p7067, iV 1, iV 24] : List Value).toArray _ [] _ from hm_) (Mr := (Fs)) (List.Perm.refl _) (fun v7069 J7070 M7071 hq7072 hJ7073 => ?_)
 replace hle := hle.trans hJ7073
 obtain ⟨rfl, rfl⟩ := hq7072
 refine at_seg0 [2] [] [] [2] [(2, .bool b6)] ?_
 refine at_end (at_thn (at_ret ?_))
 obtain rfl := Option.some.inj H
 exact at_done0 [.bool b6] (.inl rfl) [.tmp 2] fun w hs => ⟨_, _, [], rfl, ⟨rfl, rfl⟩, hle, hs⟩

/-! ### (*loop.example/g00146/impl.layout).next: function 64 -/
def impl_layout_next (p7205 : T_impl_layout) : Option T_impl_layout := some (⟨p7205.cols, IntKind.i64.wrap (p7205.row + 1), 0, p7205.cells, false, p7205.spots⟩ : T_impl_layout)
set_option maxHeartbeats 4000000 in
set_option maxRecDepth 100000 in
theorem impl_layout_next.calls {p7205 : T_impl_layout} {r : T_impl_layout} {I0 : Imm} {g7204 : Nat} {A7206 : Option Addr} {c7207 : Nat} {s7208 : Seg} {A7210 : Option Addr} {c7211 : Nat} {s7212 : Seg} (H : impl_layout_next p7205 = some r) (ho7209 : DOwn d_impl_seen 74 I0 A7206 c7207 p7205.cells s7208) (ho7213 : Own k_impl_Spot 31 I0 A7210 c7211 p7205.spots s7212) :
    Meets Try.prog 64 ([.pointer (some ⟨g7204, 0, none⟩)] : List Value).toArray I0 [[(g7204, .cells #[.int .i64 p7205.cols, .int .i64 p7205.row, .int .i64 p7205.col, .slice A7206 p7205.cells.length c7207, .bool p7205.inRow, .slice A7210 p7205.spots.length c7211] 63 (0, 0))], s7208, s7212] (fun v J M => ∃ (A_1 : Option Addr) (c_2 : Nat) (s_3 : Seg) (A_4 : Option Addr) (c_5 : Nat) (s_6 : Seg), v = .tuple #[] ∧ M = [[(g7204, .cells #[.int .i64 r.cols, .int .i64 r.row, .int .i64 r.col, .slice A_1 r.cells.length c_2, .bool r.inRow, .slice A_4 r.spots.length c_5] 63 (0, 0))], s_3, s_6] ∧ DOwn d_impl_seen 74 J A_1 c_2 r.cells s_3 ∧ Own k_impl_Spot 31 J A_4 c_5 r.spots s_6) := by
 have hle := ImmLe.refl I0
 unfold impl_layout_next at H
 refine fn_intro (fn := Try.f64) 15 Try.func64 rfl rfl rfl (fun E Fs => ?_)
 refine at_seq (at_ops [0, 1, 2, 3, 4, 5, 6, 7] rfl ?_)
 refine at_seg1 [0, 1, 2, 3, 4, 5, 6] [7] [(3, iV p7205.row)] [0, 6, 8] [(0, .pointer (some ⟨g7204, 0, none⟩)), (6, iV (IntKind.i64.wrap (p7205.row + 1))), (8, .pointer (some ⟨g7204, 1, none⟩))] [fun w => w.cell? ⟨g7204, 1, none⟩ = some (iV p7205.row)] (fun w hs => hs.var (k := 0) rfl 1 rfl) ?_
 refine at_eff rfl rfl ?_
 refine eff_store 0 rfl rfl rfl rfl rfl rfl (.inl (Nat.le_refl _)) rfl (Nat.le_of_ble_eq_true (by kernel_rfl)) rfl ?_
 refine at_sg ([(g7204, .cells #[iV p7205.cols, iV (IntKind.i64.wrap (p7205.row + 1)), iV p7205.col, .slice A7206 p7205.cells.length c7207, .bool p7205.inRow, .slice A7210 p7205.spots.length c7211] 63 (0, 0))] :: s7208 :: s7212 :: Fs) ?_
 refine at_end (at_thn (at_ops [0, 1, 2, 3, 4, 5, 6, 7] rfl ?_))
 refine at_seg0 [0, 1, 2, 3] [4, 5, 6, 7] [] [10, 12] [(10, .pointer (some ⟨g7204, 0, none⟩)), (12, .pointer (some ⟨g7204, 2, none⟩))] ?_
 refine at_eff rfl rfl ?_
 refine eff_store 0 rfl rfl rfl rfl rfl rfl (.inl (Nat.le_refl _)) rfl (Nat.le_of_ble_eq_true (by kernel_rfl)) rfl ?_
 refine at_sg ([(g7204, .cells #[iV p7205.cols, iV (IntKind.i64.wrap (p7205.row + 1)), iV 0, .slice A7206 p7205.cells.length c7207, .bool p7205.inRow, .slice A7210 p7205.spots.length c7211] 63 (0, 0))] :: s7208 :: s7212 :: Fs) ?_
 refine at_seg0 [5, 6] [7] [] [14] [(14, .pointer (some ⟨g7204, 4, none⟩))] ?_
 refine at_eff rfl rfl ?_
 refine eff_store 0 rfl rfl rfl rfl rfl rfl (.inl (Nat.le_refl _)) rfl (Nat.le_of_ble_eq_true (by kernel_rfl)) rfl ?_
 refine at_sg ([(g7204, .cells #[iV p7205.cols, iV (IntKind.i64.wrap (p7205.row + 1)), iV 0, .slice A7206 p7205.cells.length c7207, .bool false, .slice A7210 p7205.spots.length c7211] 63 (0, 0))] :: s7208 :: s7212 :: Fs) ?_
 refine at_end ?_
 obtain rfl := Option.some.inj H
 exact at_done0 [] (.inr rfl) [] fun w hs => ⟨_, _, [[(g7204, .cells #[iV p7205.cols, iV (IntKind.i64.wrap (p7205.row + 1)), iV 0, .slice A7206 p7205.cells.length c7207, .bool false, .slice A7210 p7205.spots.length c7211] 63 (0, 0))], s7208, s7212], rfl, ⟨A7206, c7207, s7208, A7210, c7211, s7212, rfl, rfl, ho7209, ho7213⟩, hle, hs⟩

/-! ### loop.example/g00146/impl.isControl: function 57 -/
def impl_isControl (p7219 : Int) : Option Bool := if p7219 < 32 then (some true) else (some (p7219 == 127))
set_option maxHeartbeats 4000000 in
set_option maxRecDepth 100000 in
theorem impl_isControl.calls {p7219 : Int} {r : Bool} {I0 : Imm} (H : impl_isControl p7219 = some r) :
    Meets Try.prog 57 ([.int .i64 p7219] : List Value).toArray I0 [] (fun v J M => v = .bool r ∧ M = []) := by
 have hle := ImmLe.refl I0
 unfold impl_isControl at H
 refine fn_intro (fn := Try.f57) 9 Try.func57 rfl rfl rfl (fun E Fs => ?_)
 refine at_seq (at_reg0 [] [0] [(0, iV p7219)] ?_)
 refine at_thn (at_seq ?_)
 by_cases h7220 : p7219 < 32
 ·
  rw [if_pos h7220] at H
  refine at_reg1 [(2, .bool true)] [2] [(2, .bool true)] [oT (p7219 < 32)] (fun w hs => cT (h7220)) ?_
  refine at_thn (at_ret ?_)
  obtain rfl := Option.some.inj H
  exact at_done0 [.bool true] (.inl rfl) [.tmp 2] fun w hs => ⟨_, _, [], rfl, ⟨rfl, rfl⟩, hle, hs⟩
 ·
  rw [if_neg h7220] at H
  refine at_reg1 [(2, .bool false)] [2] [(2, .bool (p7219 == 127))] [oF (p7219 < 32)] (fun w hs => cF (h7220)) ?_
  refine at_thn (at_ret ?_)
  obtain rfl := Option.some.inj H
  exact at_done0 [.bool (p7219 == 127)] (.inl rfl) [.tmp 2] fun w hs => ⟨_, _, [], rfl, ⟨rfl, rfl⟩, hle, hs⟩

/-! ### loop.example/g00146/impl.shown: function 65 -/
def impl_shown (p7218 : Int) : Option (List Int) := (impl_isControl p7218).bind fun b8 => (if b8 = true then (some ([94, bitsV .xor .i64 p7218 64] : List Int)) else (some ([p7218] : List Int)))
set_option maxHeartbeats 4000000 in
set_option maxRecDepth 100000 in
theorem impl_shown.calls {p7218 : Int} {r : (List Int)} {I0 : Imm} (H : impl_shown p7218 = some r) :
    Meets Try.prog 65 ([.int .i64 p7218] : List Value).toArray I0 [] (fun v J M => ∃ (A_1 : Option Addr) (c_2 : Nat) (s_3 : Seg), v = .slice A_1 r.length c_2 ∧ M = [s_3] ∧ Own (Kd.int .i64) 2 J A_1 c_2 r s_3) := by
 have hle := ImmLe.refl I0
 unfold impl_shown at H
 refine fn_intro (fn := Try.f65) 10 Try.func65 rfl rfl rfl (fun E Fs => ?_)
 refine at_seq (at_reg0 [] [0] [(0, iV p7218)] ?_)
 refine at_thn (at_seq (at_seq (at_ops [0, 1] rfl ?_)))
 refine at_seg0 [0] [1] [] [0, 3] [(0, iV p7218), (3, iV p7218)] ?_
 refine at_eff rfl rfl ?_
 obtain ⟨b8, H7219, H⟩ := bind_some H
 have hm_ := impl_isControl.calls (I0 := I0) H7219
 refine eff_call rfl rfl ok57 rfl rfl (show Meets Try.prog 57 ([iV p7218] : List Value).toArray _ [] _ from hm_) (Mr := (Fs)) (List.Perm.refl _) (fun v7220 J7221 M7222 hq7223 hJ7224 => ?_)
 replace hle := hle.trans hJ7224
 obtain ⟨rfl, rfl⟩ := hq7223
 refine at_end (at_thn ?_)
 by_cases h7225 : b8 = true
 ·
  rw [if_pos h7225] at H
  refine at_cond_t rfl (h7225) ?_
  refine at_seq (at_ops [0, 1, 2, 3] rfl ?_)
  refine at_seg0 [0, 1] [2, 3] [] [6] [(6, iV (bitsV .xor .i64 p7218 64))] ?_
  refine at_eff rfl rfl ?_
  refine eff_buildSlice (e := 2) (cells := #[iV 94, iV (bitsV .xor .i64 p7218 64)]) ([94, bitsV .xor .i64 p7218 64] : List Int).length rfl rfl rfl (by kernel_rfl) (fun g7226 => ?_)
  have ho7227 := own_lit (K := (Kd.int .i64)) (e := 2) (I := J7221) (xs := ([94, bitsV .xor .i64 p7218 64] : List Int)) (css := [[iV 94], [iV (bitsV .xor .i64 p7218 64)]]) (cells := #[iV 94, iV (bitsV .xor .i64 p7218 64)]) (b := g7226) ⟨rfl, ⟨rfl, trivial⟩⟩ rfl
  refine at_seg0 [3] [] [] [2] [(2, .slice (some ⟨g7226, 0, none⟩ : Option Addr) ([94, bitsV .xor .i64 p7218 64] : List Int).length (([94, bitsV .xor .i64 p7218 64] : List Int).length))] ?_
  refine at_end (at_thn (at_ret (at_then_ret ?_)))
  obtain rfl := Option.some.inj H
  exact at_done0 [.slice (some ⟨g7226, 0, none⟩ : Option Addr) ([94, bitsV .xor .i64 p7218 64] : List Int).length (([94, bitsV .xor .i64 p7218 64] : List Int).length)] (.inl rfl) [.tmp 2] fun w hs => ⟨_, _, [[(g7226, .cells #[iV 94, iV (bitsV .xor .i64 p7218 64)] 2 (0, 0))]], rfl, ⟨(some ⟨g7226, 0, none⟩ : Option Addr), ([94, bitsV .xor .i64 p7218 64] : List Int).length, [(g7226, .cells #[iV 94, iV (bitsV .xor .i64 p7218 64)] 2 (0, 0))], rfl, rfl, ho7227⟩, hle, hs⟩
 ·
  rw [if_neg h7225] at H
  refine at_cond_f rfl (ff_of h7225) ?_
  refine at_skip (at_thn (at_seq (at_ops [0, 1, 2] rfl ?_)))
  refine at_seg0 [0] [1, 2] [] [8] [(8, iV p7218)] ?_
  refine at_eff rfl rfl ?_
  refine eff_buildSlice (e := 2) (cells := #[iV p7218]) ([p7218] : List Int).length rfl rfl rfl (by kernel_rfl) (fun g7228 => ?_)
  have ho7229 := own_lit (K := (Kd.int .i64)) (e := 2) (I := J7221) (xs := ([p7218] : List Int)) (css := [[iV p7218]]) (cells := #[iV p7218]) (b := g7228) ⟨rfl, trivial⟩ rfl
  refine at_seg0 [2] [] [] [2] [(2, .slice (some ⟨g7228, 0, none⟩ : Option Addr) ([p7218] : List Int).length (([p7218] : List Int).length))] ?_
  refine at_end (at_thn (at_ret ?_))
  obtain rfl := Option.some.inj H
  exact at_done0 [.slice (some ⟨g7228, 0, none⟩ : Option Addr) ([p7218] : List Int).length (([p7218] : List Int).length)] (.inl rfl) [.tmp 2] fun w hs => ⟨_, _, [[(g7228, .cells #[iV p7218] 2 (0, 0))]], rfl, ⟨(some ⟨g7228, 0, none⟩ : Option Addr), ([p7218] : List Int).length, [(g7228, .cells #[iV p7218] 2 (0, 0))], rfl, rfl, ho7229⟩, hle, hs⟩
end Go.Proofs.Ytnhnipdanpcbeaa
