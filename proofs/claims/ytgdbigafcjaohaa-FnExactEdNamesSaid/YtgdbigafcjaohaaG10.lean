import Derived.Test.YtgdbigafcjaohaaG9
namespace Go.Proofs.Ytgdbigafcjaohaa
open Go Eng
set_option linter.unusedVariables false
set_option linter.unusedSimpArgs false
/-! ### slices.Sort[[]string,string]: function 13 -/
def slices_Sort_string_string (k : Nat) (p32 : List (List UInt8)) : Option (List (List UInt8)) := (bits_Len k (IntKind.u64.wrap (p32.length : Int))).bind fun b3 => ((slices_pdqsortOrdered_string k p32 0 (p32.length : Int) b3).bind fun b4 => (if b4.length = p32.length then (some b4) else none))
set_option maxHeartbeats 4000000 in
set_option maxRecDepth 100000 in
theorem slices_Sort_string_string.calls {k : Nat} {p32 : List (List UInt8)} {r : (List (List UInt8))} {I0 : Imm} {A33 : Option Addr} {c34 : Nat} {s35 : Seg} (H : slices_Sort_string_string k p32 = some r) (ho36 : Own Kd.string 9 I0 A33 c34 p32 s35) :
    Meets Try.prog 13 ([.slice A33 p32.length c34] : List Value).toArray I0 [s35] (fun v J M => ∃ (s_1 : Seg), v = .tuple #[] ∧ M = [s_1] ∧ Own Kd.string 9 J A33 c34 r s_1 ∧ r.length = p32.length) := by
  have hle := ImmLe.refl I0
  unfold slices_Sort_string_string at H
  refine fn_intro (fn := Try.f13) 11 Try.func13 rfl rfl rfl (fun E Fs => ?_)
  refine at_seq ?_
  refine at_reg [] [0, 2] (L2 := [(0, .slice A33 p32.length c34), (2, .int .i64 (p32.length : Int))]) (obs := []) (by kernel_rfl) ?_ ?_
  · intro w hs; exact trivial
  refine at_thn ?_
  refine at_ops [0, 1, 2, 3, 4, 5] rfl ?_
  refine at_seg [0, 1, 2, 3] [4, 5] rfl [] [0, 5, 6, 8] (L2 := [(0, .slice A33 p32.length c34), (5, .slice A33 p32.length c34), (6, .int .i64 (p32.length : Int)), (8, .int .u64 (IntKind.u64.wrap (p32.length : Int)))]) (obs := []) (by kernel_rfl) ?_ ?_
  · intro w hs; exact trivial
  refine at_eff rfl rfl ?_
  obtain ⟨b3, H37, H⟩ := bind_some H
  have hm_ := bits_Len.calls (I0 := I0) H37
  refine eff_call rfl rfl ok17 rfl rfl (show Meets Try.prog 17 ([.int .u64 (IntKind.u64.wrap (p32.length : Int))] : List Value).toArray _ [] _ from hm_) (Mr := (s35 :: Fs)) (List.Perm.refl _) (fun v38 J39 M40 hq41 hJ42 => ?_)
  replace hle := hle.trans hJ42
  replace ho36 := ho36.mono hJ42
  obtain ⟨rfl, rfl⟩ := hq41
  refine at_eff rfl rfl ?_
  obtain ⟨b4, H43, H⟩ := bind_some H
  have hm_ := slices_pdqsortOrdered_string.calls (I0 := J39) H43 ho36
  refine eff_call rfl rfl ok16 rfl rfl (show Meets Try.prog 16 ([.slice A33 p32.length c34, .int .i64 0, .int .i64 (p32.length : Int), .int .i64 b3] : List Value).toArray _ [s35] _ from hm_) (Mr := (Fs)) (List.Perm.refl _) (fun v44 J45 M46 hq47 hJ48 => ?_)
  replace hle := hle.trans hJ48
  replace ho36 := ho36.mono hJ48
  obtain ⟨s49, rfl, rfl, ho50, hl51⟩ := hq47
  refine at_keep [0, 5, 6, 8, 9, 10] (L2 := [(0, .slice A33 p32.length c34), (5, .slice A33 p32.length c34), (6, .int .i64 (p32.length : Int)), (8, .int .u64 (IntKind.u64.wrap (p32.length : Int))), (9, .int .i64 b3), (10, undef)]) rfl ?_
  refine at_eqL2 (L1 := [(0, .slice A33 p32.length c34), (5, .slice A33 p32.length c34), (6, .int .i64 (p32.length : Int)), (8, .int .u64 (IntKind.u64.wrap (p32.length : Int))), (9, .int .i64 b3), (10, undef)]) (L2 := [(0, .slice A33 b4.length c34), (5, .slice A33 b4.length c34), (6, .int .i64 (p32.length : Int)), (8, .int .u64 (IntKind.u64.wrap (p32.length : Int))), (9, .int .i64 b3), (10, undef)]) rfl (by rw [hl51]) ?_
  refine at_end ?_
  obtain ⟨h52, H⟩ := ite_some H
  obtain rfl := Option.some.inj H
  refine at_done (vs := []) (obs := []) (.inr rfl) [] [] rfl (by kernel_rfl) (fun w hs => trivial) (fun w hs => ⟨_, _, [s49], rfl, ⟨s49, rfl, rfl, ho50, h52⟩, hle, hs⟩)

/-! ### loop.example/g00146/impl.EdNames: function 6 -/
def impl_EdNames (k : Nat) : Option (List (List UInt8)) := (impl_moves).bind fun b2 => (if b2.length + ([([107, 105, 108, 108, 45, 108, 105, 110, 101] : List UInt8), ([107, 105, 108, 108, 45, 119, 111, 114, 100] : List UInt8), ([107, 105, 108, 108, 45, 98, 97, 99, 107] : List UInt8), ([107, 105, 108, 108, 45, 114, 101, 103, 105, 111, 110] : List UInt8), ([99, 111, 112, 121, 45, 114, 101, 103, 105, 111, 110] : List UInt8), ([115, 101, 116, 45, 109, 97, 114, 107] : List UInt8), ([121, 97, 110, 107] : List UInt8), ([121, 97, 110, 107, 45, 112, 111, 112] : List UInt8), ([100, 101, 108, 101, 116, 101] : List UInt8), ([100, 101, 108, 101, 116, 101, 45, 98, 97, 99, 107] : List UInt8), ([110, 101, 119, 108, 105, 110, 101] : List UInt8), ([117, 110, 100, 111] : List UInt8), ([114, 101, 100, 111] : List UInt8), ([117, 112, 45, 104, 105, 115, 116, 111, 114, 121] : List UInt8), ([100, 111, 119, 110, 45, 104, 105, 115, 116, 111, 114, 121] : List UInt8), ([99, 111, 109, 112, 108, 101, 116, 101] : List UInt8), ([97, 99, 99, 101, 112, 116] : List UInt8), ([118, 105, 45, 99, 111, 109, 109, 97, 110, 100] : List UInt8), ([118, 105, 45, 105, 110, 115, 101, 114, 116] : List UInt8), ([98, 101, 108, 108] : List UInt8)] : List (List UInt8)).length ≤ 8796093022208 then ((slices_Sort_string_string k (b2 ++ ([([107, 105, 108, 108, 45, 108, 105, 110, 101] : List UInt8), ([107, 105, 108, 108, 45, 119, 111, 114, 100] : List UInt8), ([107, 105, 108, 108, 45, 98, 97, 99, 107] : List UInt8), ([107, 105, 108, 108, 45, 114, 101, 103, 105, 111, 110] : List UInt8), ([99, 111, 112, 121, 45, 114, 101, 103, 105, 111, 110] : List UInt8), ([115, 101, 116, 45, 109, 97, 114, 107] : List UInt8), ([121, 97, 110, 107] : List UInt8), ([121, 97, 110, 107, 45, 112, 111, 112] : List UInt8), ([100, 101, 108, 101, 116, 101] : List UInt8), ([100, 101, 108, 101, 116, 101, 45, 98, 97, 99, 107] : List UInt8), ([110, 101, 119, 108, 105, 110, 101] : List UInt8), ([117, 110, 100, 111] : List UInt8), ([114, 101, 100, 111] : List UInt8), ([117, 112, 45, 104, 105, 115, 116, 111, 114, 121] : List UInt8), ([100, 111, 119, 110, 45, 104, 105, 115, 116, 111, 114, 121] : List UInt8), ([99, 111, 109, 112, 108, 101, 116, 101] : List UInt8), ([97, 99, 99, 101, 112, 116] : List UInt8), ([118, 105, 45, 99, 111, 109, 109, 97, 110, 100] : List UInt8), ([118, 105, 45, 105, 110, 115, 101, 114, 116] : List UInt8), ([98, 101, 108, 108] : List UInt8)] : List (List UInt8)))).bind fun b3 => (some b3)) else none)
set_option maxHeartbeats 4000000 in
set_option maxRecDepth 100000 in
theorem impl_EdNames.calls {k : Nat} {r : (List (List UInt8))} {I0 : Imm} (H : impl_EdNames k = some r) :
    Meets Try.prog 6 ([] : List Value).toArray I0 [] (fun v J M => ∃ (A_1 : Option Addr) (c_2 : Nat) (s_3 : Seg), v = .slice A_1 r.length c_2 ∧ M = [s_3] ∧ Own Kd.string 9 J A_1 c_2 r s_3) := by
  have hle := ImmLe.refl I0
  unfold impl_EdNames at H
  refine fn_intro (fn := Try.f6) 8 Try.func6 rfl rfl rfl (fun E Fs => ?_)
  refine at_seq ?_
  refine at_reg [] [] (L2 := []) (obs := []) (by kernel_rfl) ?_ ?_
  · intro w hs; exact trivial
  refine at_thn ?_
  refine at_seq ?_
  refine at_ops [0, 1, 2, 3] rfl ?_
  refine at_eff rfl rfl ?_
  obtain ⟨b2, H11, H⟩ := bind_some H
  have hm_ := impl_moves.calls (I0 := I0) H11
  refine eff_call rfl rfl ok12 rfl rfl (show Meets Try.prog 12 ([] : List Value).toArray _ [] _ from hm_) (Mr := (Fs)) (List.Perm.refl _) (fun v12 J13 M14 hq15 hJ16 => ?_)
  replace hle := hle.trans hJ16
  obtain ⟨A17, c18, s19, rfl, rfl, ho20⟩ := hq15
  refine at_eff rfl rfl ?_
  refine eff_buildSlice (e := 9) (cells := #[str ([107, 105, 108, 108, 45, 108, 105, 110, 101] : List UInt8), str ([107, 105, 108, 108, 45, 119, 111, 114, 100] : List UInt8), str ([107, 105, 108, 108, 45, 98, 97, 99, 107] : List UInt8), str ([107, 105, 108, 108, 45, 114, 101, 103, 105, 111, 110] : List UInt8), str ([99, 111, 112, 121, 45, 114, 101, 103, 105, 111, 110] : List UInt8), str ([115, 101, 116, 45, 109, 97, 114, 107] : List UInt8), str ([121, 97, 110, 107] : List UInt8), str ([121, 97, 110, 107, 45, 112, 111, 112] : List UInt8), str ([100, 101, 108, 101, 116, 101] : List UInt8), str ([100, 101, 108, 101, 116, 101, 45, 98, 97, 99, 107] : List UInt8), str ([110, 101, 119, 108, 105, 110, 101] : List UInt8), str ([117, 110, 100, 111] : List UInt8), str ([114, 101, 100, 111] : List UInt8), str ([117, 112, 45, 104, 105, 115, 116, 111, 114, 121] : List UInt8), str ([100, 111, 119, 110, 45, 104, 105, 115, 116, 111, 114, 121] : List UInt8), str ([99, 111, 109, 112, 108, 101, 116, 101] : List UInt8), str ([97, 99, 99, 101, 112, 116] : List UInt8), str ([118, 105, 45, 99, 111, 109, 109, 97, 110, 100] : List UInt8), str ([118, 105, 45, 105, 110, 115, 101, 114, 116] : List UInt8), str ([98, 101, 108, 108] : List UInt8)]) ([([107, 105, 108, 108, 45, 108, 105, 110, 101] : List UInt8), ([107, 105, 108, 108, 45, 119, 111, 114, 100] : List UInt8), ([107, 105, 108, 108, 45, 98, 97, 99, 107] : List UInt8), ([107, 105, 108, 108, 45, 114, 101, 103, 105, 111, 110] : List UInt8), ([99, 111, 112, 121, 45, 114, 101, 103, 105, 111, 110] : List UInt8), ([115, 101, 116, 45, 109, 97, 114, 107] : List UInt8), ([121, 97, 110, 107] : List UInt8), ([121, 97, 110, 107, 45, 112, 111, 112] : List UInt8), ([100, 101, 108, 101, 116, 101] : List UInt8), ([100, 101, 108, 101, 116, 101, 45, 98, 97, 99, 107] : List UInt8), ([110, 101, 119, 108, 105, 110, 101] : List UInt8), ([117, 110, 100, 111] : List UInt8), ([114, 101, 100, 111] : List UInt8), ([117, 112, 45, 104, 105, 115, 116, 111, 114, 121] : List UInt8), ([100, 111, 119, 110, 45, 104, 105, 115, 116, 111, 114, 121] : List UInt8), ([99, 111, 109, 112, 108, 101, 116, 101] : List UInt8), ([97, 99, 99, 101, 112, 116] : List UInt8), ([118, 105, 45, 99, 111, 109, 109, 97, 110, 100] : List UInt8), ([118, 105, 45, 105, 110, 115, 101, 114, 116] : List UInt8), ([98, 101, 108, 108] : List UInt8)] : List (List UInt8)).length rfl rfl rfl (by kernel_rfl) (fun g21 => ?_)
  have ho22 := own_lit (K := Kd.string) (e := 9) (I := J13) (xs := ([([107, 105, 108, 108, 45, 108, 105, 110, 101] : List UInt8), ([107, 105, 108, 108, 45, 119, 111, 114, 100] : List UInt8), ([107, 105, 108, 108, 45, 98, 97, 99, 107] : List UInt8), ([107, 105, 108, 108, 45, 114, 101, 103, 105, 111, 110] : List UInt8), ([99, 111, 112, 121, 45, 114, 101, 103, 105, 111, 110] : List UInt8), ([115, 101, 116, 45, 109, 97, 114, 107] : List UInt8), ([121, 97, 110, 107] : List UInt8), ([121, 97, 110, 107, 45, 112, 111, 112] : List UInt8), ([100, 101, 108, 101, 116, 101] : List UInt8), ([100, 101, 108, 101, 116, 101, 45, 98, 97, 99, 107] : List UInt8), ([110, 101, 119, 108, 105, 110, 101] : List UInt8), ([117, 110, 100, 111] : List UInt8), ([114, 101, 100, 111] : List UInt8), ([117, 112, 45, 104, 105, 115, 116, 111, 114, 121] : List UInt8), ([100, 111, 119, 110, 45, 104, 105, 115, 116, 111, 114, 121] : List UInt8), ([99, 111, 109, 112, 108, 101, 116, 101] : List UInt8), ([97, 99, 99, 101, 112, 116] : List UInt8), ([118, 105, 45, 99, 111, 109, 109, 97, 110, 100] : List UInt8), ([118, 105, 45, 105, 110, 115, 101, 114, 116] : List UInt8), ([98, 101, 108, 108] : List UInt8)] : List (List UInt8))) (css := [[str ([107, 105, 108, 108, 45, 108, 105, 110, 101] : List UInt8)], [str ([107, 105, 108, 108, 45, 119, 111, 114, 100] : List UInt8)], [str ([107, 105, 108, 108, 45, 98, 97, 99, 107] : List UInt8)], [str ([107, 105, 108, 108, 45, 114, 101, 103, 105, 111, 110] : List UInt8)], [str ([99, 111, 112, 121, 45, 114, 101, 103, 105, 111, 110] : List UInt8)], [str ([115, 101, 116, 45, 109, 97, 114, 107] : List UInt8)], [str ([121, 97, 110, 107] : List UInt8)], [str ([121, 97, 110, 107, 45, 112, 111, 112] : List UInt8)], [str ([100, 101, 108, 101, 116, 101] : List UInt8)], [str ([100, 101, 108, 101, 116, 101, 45, 98, 97, 99, 107] : List UInt8)], [str ([110, 101, 119, 108, 105, 110, 101] : List UInt8)], [str ([117, 110, 100, 111] : List UInt8)], [str ([114, 101, 100, 111] : List UInt8)], [str ([117, 112, 45, 104, 105, 115, 116, 111, 114, 121] : List UInt8)], [str ([100, 111, 119, 110, 45, 104, 105, 115, 116, 111, 114, 121] : List UInt8)], [str ([99, 111, 109, 112, 108, 101, 116, 101] : List UInt8)], [str ([97, 99, 99, 101, 112, 116] : List UInt8)], [str ([118, 105, 45, 99, 111, 109, 109, 97, 110, 100] : List UInt8)], [str ([118, 105, 45, 105, 110, 115, 101, 114, 116] : List UInt8)], [str ([98, 101, 108, 108] : List UInt8)]]) (cells := #[str ([107, 105, 108, 108, 45, 108, 105, 110, 101] : List UInt8), str ([107, 105, 108, 108, 45, 119, 111, 114, 100] : List UInt8), str ([107, 105, 108, 108, 45, 98, 97, 99, 107] : List UInt8), str ([107, 105, 108, 108, 45, 114, 101, 103, 105, 111, 110] : List UInt8), str ([99, 111, 112, 121, 45, 114, 101, 103, 105, 111, 110] : List UInt8), str ([115, 101, 116, 45, 109, 97, 114, 107] : List UInt8), str ([121, 97, 110, 107] : List UInt8), str ([121, 97, 110, 107, 45, 112, 111, 112] : List UInt8), str ([100, 101, 108, 101, 116, 101] : List UInt8), str ([100, 101, 108, 101, 116, 101, 45, 98, 97, 99, 107] : List UInt8), str ([110, 101, 119, 108, 105, 110, 101] : List UInt8), str ([117, 110, 100, 111] : List UInt8), str ([114, 101, 100, 111] : List UInt8), str ([117, 112, 45, 104, 105, 115, 116, 111, 114, 121] : List UInt8), str ([100, 111, 119, 110, 45, 104, 105, 115, 116, 111, 114, 121] : List UInt8), str ([99, 111, 109, 112, 108, 101, 116, 101] : List UInt8), str ([97, 99, 99, 101, 112, 116] : List UInt8), str ([118, 105, 45, 99, 111, 109, 109, 97, 110, 100] : List UInt8), str ([118, 105, 45, 105, 110, 115, 101, 114, 116] : List UInt8), str ([98, 101, 108, 108] : List UInt8)]) (b := g21) ⟨rfl, ⟨rfl, ⟨rfl, ⟨rfl, ⟨rfl, ⟨rfl, ⟨rfl, ⟨rfl, ⟨rfl, ⟨rfl, ⟨rfl, ⟨rfl, ⟨rfl, ⟨rfl, ⟨rfl, ⟨rfl, ⟨rfl, ⟨rfl, ⟨rfl, ⟨rfl, trivial⟩⟩⟩⟩⟩⟩⟩⟩⟩⟩⟩⟩⟩⟩⟩⟩⟩⟩⟩⟩ rfl
  refine at_eff rfl rfl ?_
  obtain ⟨h23, H⟩ := ite_some H
  obtain ⟨i_, hi_, hz_, hs_, hb_⟩ := info9
  refine eff_append (K := Kd.string) (xs := b2) (ys := ([([107, 105, 108, 108, 45, 108, 105, 110, 101] : List UInt8), ([107, 105, 108, 108, 45, 119, 111, 114, 100] : List UInt8), ([107, 105, 108, 108, 45, 98, 97, 99, 107] : List UInt8), ([107, 105, 108, 108, 45, 114, 101, 103, 105, 111, 110] : List UInt8), ([99, 111, 112, 121, 45, 114, 101, 103, 105, 111, 110] : List UInt8), ([115, 101, 116, 45, 109, 97, 114, 107] : List UInt8), ([121, 97, 110, 107] : List UInt8), ([121, 97, 110, 107, 45, 112, 111, 112] : List UInt8), ([100, 101, 108, 101, 116, 101] : List UInt8), ([100, 101, 108, 101, 116, 101, 45, 98, 97, 99, 107] : List UInt8), ([110, 101, 119, 108, 105, 110, 101] : List UInt8), ([117, 110, 100, 111] : List UInt8), ([114, 101, 100, 111] : List UInt8), ([117, 112, 45, 104, 105, 115, 116, 111, 114, 121] : List UInt8), ([100, 111, 119, 110, 45, 104, 105, 115, 116, 111, 114, 121] : List UInt8), ([99, 111, 109, 112, 108, 101, 116, 101] : List UInt8), ([97, 99, 99, 101, 112, 116] : List UInt8), ([118, 105, 45, 99, 111, 109, 109, 97, 110, 100] : List UInt8), ([118, 105, 45, 105, 110, 115, 101, 114, 116] : List UInt8), ([98, 101, 108, 108] : List UInt8)] : List (List UInt8))) 1 rfl rfl rfl rfl rfl und22 und22 hi_ hz_ hs_ rfl rfl rfl ho20 rfl (fun w hs => ho22.rowAt (k := 0) hs rfl) (by rw [hb_]; omega) (by omega) (fun A24 c25 s26 ho27 => ?_)
  refine at_seg [3] [] rfl [] [1] (L2 := [(1, .slice A24 (b2 ++ ([([107, 105, 108, 108, 45, 108, 105, 110, 101] : List UInt8), ([107, 105, 108, 108, 45, 119, 111, 114, 100] : List UInt8), ([107, 105, 108, 108, 45, 98, 97, 99, 107] : List UInt8), ([107, 105, 108, 108, 45, 114, 101, 103, 105, 111, 110] : List UInt8), ([99, 111, 112, 121, 45, 114, 101, 103, 105, 111, 110] : List UInt8), ([115, 101, 116, 45, 109, 97, 114, 107] : List UInt8), ([121, 97, 110, 107] : List UInt8), ([121, 97, 110, 107, 45, 112, 111, 112] : List UInt8), ([100, 101, 108, 101, 116, 101] : List UInt8), ([100, 101, 108, 101, 116, 101, 45, 98, 97, 99, 107] : List UInt8), ([110, 101, 119, 108, 105, 110, 101] : List UInt8), ([117, 110, 100, 111] : List UInt8), ([114, 101, 100, 111] : List UInt8), ([117, 112, 45, 104, 105, 115, 116, 111, 114, 121] : List UInt8), ([100, 111, 119, 110, 45, 104, 105, 115, 116, 111, 114, 121] : List UInt8), ([99, 111, 109, 112, 108, 101, 116, 101] : List UInt8), ([97, 99, 99, 101, 112, 116] : List UInt8), ([118, 105, 45, 99, 111, 109, 109, 97, 110, 100] : List UInt8), ([118, 105, 45, 105, 110, 115, 101, 114, 116] : List UInt8), ([98, 101, 108, 108] : List UInt8)] : List (List UInt8))).length c25)]) (obs := []) (by kernel_rfl) ?_ ?_
  · intro w hs; exact trivial
  refine at_end ?_
  refine at_thn ?_
  refine at_seq ?_
  refine at_ops [0, 1] rfl ?_
  refine at_seg [0] [1] rfl [] [1, 5] (L2 := [(1, .slice A24 (b2 ++ ([([107, 105, 108, 108, 45, 108, 105, 110, 101] : List UInt8), ([107, 105, 108, 108, 45, 119, 111, 114, 100] : List UInt8), ([107, 105, 108, 108, 45, 98, 97, 99, 107] : List UInt8), ([107, 105, 108, 108, 45, 114, 101, 103, 105, 111, 110] : List UInt8), ([99, 111, 112, 121, 45, 114, 101, 103, 105, 111, 110] : List UInt8), ([115, 101, 116, 45, 109, 97, 114, 107] : List UInt8), ([121, 97, 110, 107] : List UInt8), ([121, 97, 110, 107, 45, 112, 111, 112] : List UInt8), ([100, 101, 108, 101, 116, 101] : List UInt8), ([100, 101, 108, 101, 116, 101, 45, 98, 97, 99, 107] : List UInt8), ([110, 101, 119, 108, 105, 110, 101] : List UInt8), ([117, 110, 100, 111] : List UInt8), ([114, 101, 100, 111] : List UInt8), ([117, 112, 45, 104, 105, 115, 116, 111, 114, 121] : List UInt8), ([100, 111, 119, 110, 45, 104, 105, 115, 116, 111, 114, 121] : List UInt8), ([99, 111, 109, 112, 108, 101, 116, 101] : List UInt8), ([97, 99, 99, 101, 112, 116] : List UInt8), ([118, 105, 45, 99, 111, 109, 109, 97, 110, 100] : List UInt8), ([118, 105, 45, 105, 110, 115, 101, 114, 116] : List UInt8), ([98, 101, 108, 108] : List UInt8)] : List (List UInt8))).length c25), (5, .slice A24 (b2 ++ ([([107, 105, 108, 108, 45, 108, 105, 110, 101] : List UInt8), ([107, 105, 108, 108, 45, 119, 111, 114, 100] : List UInt8), ([107, 105, 108, 108, 45, 98, 97, 99, 107] : List UInt8), ([107, 105, 108, 108, 45, 114, 101, 103, 105, 111, 110] : List UInt8), ([99, 111, 112, 121, 45, 114, 101, 103, 105, 111, 110] : List UInt8), ([115, 101, 116, 45, 109, 97, 114, 107] : List UInt8), ([121, 97, 110, 107] : List UInt8), ([121, 97, 110, 107, 45, 112, 111, 112] : List UInt8), ([100, 101, 108, 101, 116, 101] : List UInt8), ([100, 101, 108, 101, 116, 101, 45, 98, 97, 99, 107] : List UInt8), ([110, 101, 119, 108, 105, 110, 101] : List UInt8), ([117, 110, 100, 111] : List UInt8), ([114, 101, 100, 111] : List UInt8), ([117, 112, 45, 104, 105, 115, 116, 111, 114, 121] : List UInt8), ([100, 111, 119, 110, 45, 104, 105, 115, 116, 111, 114, 121] : List UInt8), ([99, 111, 109, 112, 108, 101, 116, 101] : List UInt8), ([97, 99, 99, 101, 112, 116] : List UInt8), ([118, 105, 45, 99, 111, 109, 109, 97, 110, 100] : List UInt8), ([118, 105, 45, 105, 110, 115, 101, 114, 116] : List UInt8), ([98, 101, 108, 108] : List UInt8)] : List (List UInt8))).length c25)]) (obs := []) (by kernel_rfl) ?_ ?_
  · intro w hs; exact trivial
  refine at_eff rfl rfl ?_
  obtain ⟨b3, H28, H⟩ := bind_some H
  have hm_ := slices_Sort_string_string.calls (I0 := J13) H28 ho27
  refine eff_call rfl rfl ok13 rfl rfl (show Meets Try.prog 13 ([.slice A24 (b2 ++ ([([107, 105, 108, 108, 45, 108, 105, 110, 101] : List UInt8), ([107, 105, 108, 108, 45, 119, 111, 114, 100] : List UInt8), ([107, 105, 108, 108, 45, 98, 97, 99, 107] : List UInt8), ([107, 105, 108, 108, 45, 114, 101, 103, 105, 111, 110] : List UInt8), ([99, 111, 112, 121, 45, 114, 101, 103, 105, 111, 110] : List UInt8), ([115, 101, 116, 45, 109, 97, 114, 107] : List UInt8), ([121, 97, 110, 107] : List UInt8), ([121, 97, 110, 107, 45, 112, 111, 112] : List UInt8), ([100, 101, 108, 101, 116, 101] : List UInt8), ([100, 101, 108, 101, 116, 101, 45, 98, 97, 99, 107] : List UInt8), ([110, 101, 119, 108, 105, 110, 101] : List UInt8), ([117, 110, 100, 111] : List UInt8), ([114, 101, 100, 111] : List UInt8), ([117, 112, 45, 104, 105, 115, 116, 111, 114, 121] : List UInt8), ([100, 111, 119, 110, 45, 104, 105, 115, 116, 111, 114, 121] : List UInt8), ([99, 111, 109, 112, 108, 101, 116, 101] : List UInt8), ([97, 99, 99, 101, 112, 116] : List UInt8), ([118, 105, 45, 99, 111, 109, 109, 97, 110, 100] : List UInt8), ([118, 105, 45, 105, 110, 115, 101, 114, 116] : List UInt8), ([98, 101, 108, 108] : List UInt8)] : List (List UInt8))).length c25] : List Value).toArray _ [s26] _ from hm_) (Mr := ([(g21, .cells #[str ([107, 105, 108, 108, 45, 108, 105, 110, 101] : List UInt8), str ([107, 105, 108, 108, 45, 119, 111, 114, 100] : List UInt8), str ([107, 105, 108, 108, 45, 98, 97, 99, 107] : List UInt8), str ([107, 105, 108, 108, 45, 114, 101, 103, 105, 111, 110] : List UInt8), str ([99, 111, 112, 121, 45, 114, 101, 103, 105, 111, 110] : List UInt8), str ([115, 101, 116, 45, 109, 97, 114, 107] : List UInt8), str ([121, 97, 110, 107] : List UInt8), str ([121, 97, 110, 107, 45, 112, 111, 112] : List UInt8), str ([100, 101, 108, 101, 116, 101] : List UInt8), str ([100, 101, 108, 101, 116, 101, 45, 98, 97, 99, 107] : List UInt8), str ([110, 101, 119, 108, 105, 110, 101] : List UInt8), str ([117, 110, 100, 111] : List UInt8), str ([114, 101, 100, 111] : List UInt8), str ([117, 112, 45, 104, 105, 115, 116, 111, 114, 121] : List UInt8), str ([100, 111, 119, 110, 45, 104, 105, 115, 116, 111, 114, 121] : List UInt8), str ([99, 111, 109, 112, 108, 101, 116, 101] : List UInt8), str ([97, 99, 99, 101, 112, 116] : List UInt8), str ([118, 105, 45, 99, 111, 109, 109, 97, 110, 100] : List UInt8), str ([118, 105, 45, 105, 110, 115, 101, 114, 116] : List UInt8), str ([98, 101, 108, 108] : List UInt8)] 9 (0, 0))] :: Fs)) ((perm_at (k := 1) rfl).trans ((List.Perm.refl _).cons _)) (fun v29 J30 M31 hq32 hJ33 => ?_)
  replace hle := hle.trans hJ33
  replace ho27 := ho27.mono hJ33
  obtain ⟨s34, rfl, rfl, ho35, hl36⟩ := hq32
  refine at_keep [1, 5, 6] (L2 := [(1, .slice A24 (b2 ++ ([([107, 105, 108, 108, 45, 108, 105, 110, 101] : List UInt8), ([107, 105, 108, 108, 45, 119, 111, 114, 100] : List UInt8), ([107, 105, 108, 108, 45, 98, 97, 99, 107] : List UInt8), ([107, 105, 108, 108, 45, 114, 101, 103, 105, 111, 110] : List UInt8), ([99, 111, 112, 121, 45, 114, 101, 103, 105, 111, 110] : List UInt8), ([115, 101, 116, 45, 109, 97, 114, 107] : List UInt8), ([121, 97, 110, 107] : List UInt8), ([121, 97, 110, 107, 45, 112, 111, 112] : List UInt8), ([100, 101, 108, 101, 116, 101] : List UInt8), ([100, 101, 108, 101, 116, 101, 45, 98, 97, 99, 107] : List UInt8), ([110, 101, 119, 108, 105, 110, 101] : List UInt8), ([117, 110, 100, 111] : List UInt8), ([114, 101, 100, 111] : List UInt8), ([117, 112, 45, 104, 105, 115, 116, 111, 114, 121] : List UInt8), ([100, 111, 119, 110, 45, 104, 105, 115, 116, 111, 114, 121] : List UInt8), ([99, 111, 109, 112, 108, 101, 116, 101] : List UInt8), ([97, 99, 99, 101, 112, 116] : List UInt8), ([118, 105, 45, 99, 111, 109, 109, 97, 110, 100] : List UInt8), ([118, 105, 45, 105, 110, 115, 101, 114, 116] : List UInt8), ([98, 101, 108, 108] : List UInt8)] : List (List UInt8))).length c25), (5, .slice A24 (b2 ++ ([([107, 105, 108, 108, 45, 108, 105, 110, 101] : List UInt8), ([107, 105, 108, 108, 45, 119, 111, 114, 100] : List UInt8), ([107, 105, 108, 108, 45, 98, 97, 99, 107] : List UInt8), ([107, 105, 108, 108, 45, 114, 101, 103, 105, 111, 110] : List UInt8), ([99, 111, 112, 121, 45, 114, 101, 103, 105, 111, 110] : List UInt8), ([115, 101, 116, 45, 109, 97, 114, 107] : List UInt8), ([121, 97, 110, 107] : List UInt8), ([121, 97, 110, 107, 45, 112, 111, 112] : List UInt8), ([100, 101, 108, 101, 116, 101] : List UInt8), ([100, 101, 108, 101, 116, 101, 45, 98, 97, 99, 107] : List UInt8), ([110, 101, 119, 108, 105, 110, 101] : List UInt8), ([117, 110, 100, 111] : List UInt8), ([114, 101, 100, 111] : List UInt8), ([117, 112, 45, 104, 105, 115, 116, 111, 114, 121] : List UInt8), ([100, 111, 119, 110, 45, 104, 105, 115, 116, 111, 114, 121] : List UInt8), ([99, 111, 109, 112, 108, 101, 116, 101] : List UInt8), ([97, 99, 99, 101, 112, 116] : List UInt8), ([118, 105, 45, 99, 111, 109, 109, 97, 110, 100] : List UInt8), ([118, 105, 45, 105, 110, 115, 101, 114, 116] : List UInt8), ([98, 101, 108, 108] : List UInt8)] : List (List UInt8))).length c25), (6, undef)]) rfl ?_
  refine at_eqL2 (L1 := [(1, .slice A24 (b2 ++ ([([107, 105, 108, 108, 45, 108, 105, 110, 101] : List UInt8), ([107, 105, 108, 108, 45, 119, 111, 114, 100] : List UInt8), ([107, 105, 108, 108, 45, 98, 97, 99, 107] : List UInt8), ([107, 105, 108, 108, 45, 114, 101, 103, 105, 111, 110] : List UInt8), ([99, 111, 112, 121, 45, 114, 101, 103, 105, 111, 110] : List UInt8), ([115, 101, 116, 45, 109, 97, 114, 107] : List UInt8), ([121, 97, 110, 107] : List UInt8), ([121, 97, 110, 107, 45, 112, 111, 112] : List UInt8), ([100, 101, 108, 101, 116, 101] : List UInt8), ([100, 101, 108, 101, 116, 101, 45, 98, 97, 99, 107] : List UInt8), ([110, 101, 119, 108, 105, 110, 101] : List UInt8), ([117, 110, 100, 111] : List UInt8), ([114, 101, 100, 111] : List UInt8), ([117, 112, 45, 104, 105, 115, 116, 111, 114, 121] : List UInt8), ([100, 111, 119, 110, 45, 104, 105, 115, 116, 111, 114, 121] : List UInt8), ([99, 111, 109, 112, 108, 101, 116, 101] : List UInt8), ([97, 99, 99, 101, 112, 116] : List UInt8), ([118, 105, 45, 99, 111, 109, 109, 97, 110, 100] : List UInt8), ([118, 105, 45, 105, 110, 115, 101, 114, 116] : List UInt8), ([98, 101, 108, 108] : List UInt8)] : List (List UInt8))).length c25), (5, .slice A24 (b2 ++ ([([107, 105, 108, 108, 45, 108, 105, 110, 101] : List UInt8), ([107, 105, 108, 108, 45, 119, 111, 114, 100] : List UInt8), ([107, 105, 108, 108, 45, 98, 97, 99, 107] : List UInt8), ([107, 105, 108, 108, 45, 114, 101, 103, 105, 111, 110] : List UInt8), ([99, 111, 112, 121, 45, 114, 101, 103, 105, 111, 110] : List UInt8), ([115, 101, 116, 45, 109, 97, 114, 107] : List UInt8), ([121, 97, 110, 107] : List UInt8), ([121, 97, 110, 107, 45, 112, 111, 112] : List UInt8), ([100, 101, 108, 101, 116, 101] : List UInt8), ([100, 101, 108, 101, 116, 101, 45, 98, 97, 99, 107] : List UInt8), ([110, 101, 119, 108, 105, 110, 101] : List UInt8), ([117, 110, 100, 111] : List UInt8), ([114, 101, 100, 111] : List UInt8), ([117, 112, 45, 104, 105, 115, 116, 111, 114, 121] : List UInt8), ([100, 111, 119, 110, 45, 104, 105, 115, 116, 111, 114, 121] : List UInt8), ([99, 111, 109, 112, 108, 101, 116, 101] : List UInt8), ([97, 99, 99, 101, 112, 116] : List UInt8), ([118, 105, 45, 99, 111, 109, 109, 97, 110, 100] : List UInt8), ([118, 105, 45, 105, 110, 115, 101, 114, 116] : List UInt8), ([98, 101, 108, 108] : List UInt8)] : List (List UInt8))).length c25), (6, undef)]) (L2 := [(1, .slice A24 b3.length c25), (5, .slice A24 b3.length c25), (6, undef)]) rfl (by rw [hl36]) ?_
  refine at_end ?_
  refine at_thn ?_
  refine at_seq ?_
  refine at_reg [] [0] (L2 := [(0, .slice A24 b3.length c25)]) (obs := []) (by kernel_rfl) ?_ ?_
  · intro w hs; exact trivial
  refine at_thn ?_
  refine at_ret ?_
  obtain rfl := Option.some.inj H
  refine at_drop (k := 1) rfl rfl ?_
  refine at_done (vs := [.slice A24 b3.length c25]) (obs := []) (.inl rfl) [.tmp 0] [] rfl (by kernel_rfl) (fun w hs => trivial) (fun w hs => ⟨_, _, [s34], rfl, ⟨A24, c25, s34, rfl, rfl, ho35⟩, hle, hs⟩)

/-! ### loop.example/g00146/laws.eqStringS: function 7 -/
def laws_eqStringS_l0 : Nat → Int → (List (List UInt8)) → (List (List UInt8)) → Option Bool
  | 0, _, _, _ => none
  | k + 1, x30, p21, p25 => if x30 < (p21.length : Int) then (if 0 ≤ x30 then (if x30 < (p25.length : Int) then (if (rdA [] p21 x30) = (rdA [] p25 x30) then (laws_eqStringS_l0 k (IntKind.i64.wrap (x30 + 1)) p21 p25) else (some false)) else none) else none) else (some true)
def laws_eqStringS (k : Nat) (p21 : List (List UInt8)) (p25 : List (List UInt8)) : Option Bool := if (p21.length : Int) = (p25.length : Int) then (laws_eqStringS_l0 k 0 p21 p25) else (some false)
set_option maxHeartbeats 4000000 in
set_option maxRecDepth 100000 in
theorem laws_eqStringS.calls {k : Nat} {p21 : List (List UInt8)} {p25 : List (List UInt8)} {r : Bool} {I0 : Imm} {A22 : Option Addr} {c23 : Nat} {A26 : Option Addr} {c27 : Nat} (H : laws_eqStringS k p21 p25 = some r) (hr24 : Rd Kd.string I0 A22 c23 p21) (hr28 : Rd Kd.string I0 A26 c27 p25) :
    Meets Try.prog 7 ([.slice A22 p21.length c23, .slice A26 p25.length c27] : List Value).toArray I0 [] (fun v J M => v = .bool r ∧ M = []) := by
  have hle := ImmLe.refl I0
  unfold laws_eqStringS at H
  refine fn_intro (fn := Try.f7) 26 Try.func7 rfl rfl rfl (fun E Fs => ?_)
  refine at_seq ?_
  refine at_reg [] [0, 1] (L2 := [(0, .slice A22 p21.length c23), (1, .slice A26 p25.length c27)]) (obs := []) (by kernel_rfl) ?_ ?_
  · intro w hs; exact trivial
  refine at_thn ?_
  refine at_seq ?_
  refine at_seq ?_
  refine at_reg [] [0, 1, 10] (L2 := [(0, .slice A22 p21.length c23), (1, .slice A26 p25.length c27), (10, .bool ((p21.length : Int) != (p25.length : Int)))]) (obs := []) (by kernel_rfl) ?_ ?_
  · intro w hs; exact trivial
  refine at_thn ?_
  by_cases h29 : (p21.length : Int) = (p25.length : Int)
  · rw [if_pos h29] at H
    refine at_cond_f rfl (bne_eq_false_iff_eq.2 h29) ?_
    refine at_skip ?_
    refine at_thn ?_
    refine at_seq ?_
    refine at_seq ?_
    refine at_reg [] [0, 1, 5] (L2 := [(0, .slice A22 p21.length c23), (1, .slice A26 p25.length c27), (5, .int .i64 0)]) (obs := []) (by kernel_rfl) ?_ ?_
    · intro w hs; exact trivial
    refine at_thn ?_
    refine at_block ?_
    refine at_keep [0, 1, 5] (L2 := [(0, .slice A22 p21.length c23), (1, .slice A26 p25.length c27), (5, .int .i64 0)]) rfl ?_
    refine at_loop (fun k31 L I Ms => ∃ (x30 : Int), L = [(0, .slice A22 p21.length c23), (1, .slice A26 p25.length c27), (5, .int .i64 x30)] ∧ Ms = ([] ++ Fs) ∧ laws_eqStringS_l0 k31 x30 p21 p25 = some r ∧ ImmLe I0 I ∧ k31 ≤ k ∧ Rd Kd.string I A22 c23 p21 ∧ Rd Kd.string I A26 c27 p25) ?_ ?_ k ⟨0, rfl, rfl, H, hle, Nat.le_refl _, hr24, hr28⟩
    · rintro L I Ms ⟨_, rfl, rfl, H, _⟩; exact no_none H
    · clear H hle hr24 hr28
      intro k31 ih32 L I Ms h_; obtain ⟨x30, hL_, hM_, H, hle, hk33, hr24, hr28⟩ := h_; rw [hL_, hM_]; clear hL_ hM_ L Ms
      rw [laws_eqStringS_l0] at H
      refine at_seq ?_
      refine at_seq ?_
      refine at_reg [] [0, 1, 5, 14] (L2 := [(0, .slice A22 p21.length c23), (1, .slice A26 p25.length c27), (5, .int .i64 x30), (14, .bool (decide (x30 < (p21.length : Int))))]) (obs := []) (by kernel_rfl) ?_ ?_
      · intro w hs; exact trivial
      refine at_thn ?_
      by_cases h34 : x30 < (p21.length : Int)
      · rw [if_pos h34] at H
        refine at_cond_t rfl (decide_eq_true h34) ?_
        refine at_skip ?_
        refine at_thn ?_
        refine at_seq ?_
        refine at_block ?_
        refine at_seq ?_
        obtain ⟨h35, H⟩ := ite_some H
        obtain ⟨h36, H⟩ := ite_some H
        refine at_regd hmo [(3, str (rdA [] p21 x30)), (7, str (rdA [] p25 x30))] [0, 1, 5, 25] (by kernel_rfl) (L2 := [(0, .slice A22 p21.length c23), (1, .slice A26 p25.length c27), (5, .int .i64 x30), (25, .bool (!((rdA [] p21 x30) == (rdA [] p25 x30))))]) (obs := [fun _ => A22.isSome = true ∧ 0 ≤ x30 ∧ x30 < ((p21.length : Nat) : Int), fun w => w.cell? ((A22.getD ad0).add (x30.toNat * 1)) = some (str (rdA [] p21 x30)), fun _ => A26.isSome = true ∧ 0 ≤ x30 ∧ x30 < ((p25.length : Nat) : Int), fun w => w.cell? ((A26.getD ad0).add (x30.toNat * 1)) = some (str (rdA [] p25 x30))]) (by kernel_rfl) ?_ ?_
        · intro w hs; exact ⟨⟨hr24.ne x30 h35 h34, h35, h34⟩, hr24.one [] x30 h35 h34 hs, ⟨hr28.ne x30 h35 h36, h35, h36⟩, hr28.one [] x30 h35 h36 hs⟩
        refine at_thn ?_
        by_cases h37 : (rdA [] p21 x30) = (rdA [] p25 x30)
        · rw [if_pos h37] at H
          refine at_cond_f rfl (not_ff (beq_iff_eq.2 h37)) ?_
          refine at_skip ?_
          refine at_in_norm ?_
          refine at_thn ?_
          refine at_reg [] [0, 1, 5] (L2 := [(0, .slice A22 p21.length c23), (1, .slice A26 p25.length c27), (5, .int .i64 (IntKind.i64.wrap (x30 + 1)))]) (obs := []) (by kernel_rfl) ?_ ?_
          · intro w hs; exact trivial
          refine at_thn ?_
          refine at_keep [0, 1, 5] (L2 := [(0, .slice A22 p21.length c23), (1, .slice A26 p25.length c27), (5, .int .i64 (IntKind.i64.wrap (x30 + 1)))]) rfl ?_
          exact ih32 _ (by omega) _ _ _ ⟨IntKind.i64.wrap (x30 + 1), rfl, rfl, H, hle, by omega, hr24, hr28⟩
        · rw [if_neg h37] at H
          refine at_cond_t rfl (not_tt (beq_eq_false_iff_ne.2 h37)) ?_
          refine at_seq ?_
          refine at_reg [] [4] (L2 := [(4, .bool false)]) (obs := []) (by kernel_rfl) ?_ ?_
          · intro w hs; exact trivial
          refine at_thn ?_
          refine at_ret ?_
          refine at_in_ret ?_
          refine at_then_ret ?_
          refine at_then_ret ?_
          refine at_in_ret ?_
          refine at_then_ret ?_
          obtain rfl := Option.some.inj H
          refine at_done (vs := [.bool false]) (obs := []) (.inl rfl) [.tmp 4] [] rfl (by kernel_rfl) (fun w hs => trivial) (fun w hs => ⟨_, _, [], rfl, ⟨rfl, rfl⟩, hle, hs⟩)
      · rw [if_neg h34] at H
        refine at_cond_f rfl (decide_eq_false h34) ?_
        refine at_exit ?_
        refine at_then_exit ?_
        refine at_then_exit ?_
        refine at_in_hit ?_
        refine at_thn ?_
        refine at_seq ?_
        refine at_reg [] [4] (L2 := [(4, .bool true)]) (obs := []) (by kernel_rfl) ?_ ?_
        · intro w hs; exact trivial
        refine at_thn ?_
        refine at_ret ?_
        obtain rfl := Option.some.inj H
        refine at_done (vs := [.bool true]) (obs := []) (.inl rfl) [.tmp 4] [] rfl (by kernel_rfl) (fun w hs => trivial) (fun w hs => ⟨_, _, [], rfl, ⟨rfl, rfl⟩, hle, hs⟩)
  · rw [if_neg h29] at H
    refine at_cond_t rfl (bne_iff_ne.2 h29) ?_
    refine at_seq ?_
    refine at_reg [] [4] (L2 := [(4, .bool false)]) (obs := []) (by kernel_rfl) ?_ ?_
    · intro w hs; exact trivial
    refine at_thn ?_
    refine at_ret ?_
    refine at_then_ret ?_
    obtain rfl := Option.some.inj H
    refine at_done (vs := [.bool false]) (obs := []) (.inl rfl) [.tmp 4] [] rfl (by kernel_rfl) (fun w hs => trivial) (fun w hs => ⟨_, _, [], rfl, ⟨rfl, rfl⟩, hle, hs⟩)

/-! ### loop.example/g00146/laws.markText: function 14 -/
def laws_markText_l0 : Nat → Int → (List UInt8) → Option (List UInt8)
  | 0, _, _ => none
  | k + 1, x37, x38 => if x37 > 0 then (if (toB ([IntKind.u8.wrap (IntKind.i64.wrap (48 + (x37.tmod 10)))] : List Int)).length + x38.length ≤ 9223372036854775807 then (laws_markText_l0 k (IntKind.i64.wrap (x37.tdiv 10)) ((toB ([IntKind.u8.wrap (IntKind.i64.wrap (48 + (x37.tmod 10)))] : List Int)) ++ x38)) else none) else (if ([109] : List UInt8).length + x38.length ≤ 9223372036854775807 then (some (([109] : List UInt8) ++ x38)) else none)
def laws_markText (k : Nat) (p35 : Int) : Option (List UInt8) := if p35 ≤ 0 then (some ([109, 48] : List UInt8)) else (laws_markText_l0 k p35 ([] : List UInt8))
set_option maxHeartbeats 4000000 in
set_option maxRecDepth 100000 in
theorem laws_markText.calls {k : Nat} {p35 : Int} {r : (List UInt8)} {I0 : Imm} (H : laws_markText k p35 = some r) :
    Meets Try.prog 14 ([.int .i64 p35] : List Value).toArray I0 [] (fun v J M => v = str r ∧ M = []) := by
  have hle := ImmLe.refl I0
  unfold laws_markText at H
  refine fn_intro (fn := Try.f14) 20 Try.func14 rfl rfl rfl (fun E Fs => ?_)
  refine at_seq ?_
  refine at_reg [] [0] (L2 := [(0, .int .i64 p35)]) (obs := []) (by kernel_rfl) ?_ ?_
  · intro w hs; exact trivial
  refine at_thn ?_
  refine at_seq ?_
  refine at_seq ?_
  refine at_reg [] [0, 5] (L2 := [(0, .int .i64 p35), (5, .bool (decide (p35 ≤ 0)))]) (obs := []) (by kernel_rfl) ?_ ?_
  · intro w hs; exact trivial
  refine at_thn ?_
  by_cases h36 : p35 ≤ 0
  · rw [if_pos h36] at H
    refine at_cond_t rfl (decide_eq_true h36) ?_
    refine at_seq ?_
    refine at_reg [] [2] (L2 := [(2, str ([109, 48] : List UInt8))]) (obs := []) (by kernel_rfl) ?_ ?_
    · intro w hs; exact trivial
    refine at_thn ?_
    refine at_ret ?_
    refine at_then_ret ?_
    obtain rfl := Option.some.inj H
    refine at_done (vs := [str ([109, 48] : List UInt8)]) (obs := []) (.inl rfl) [.tmp 2] [] rfl (by kernel_rfl) (fun w hs => trivial) (fun w hs => ⟨_, _, [], rfl, ⟨rfl, rfl⟩, hle, hs⟩)
  · rw [if_neg h36] at H
    refine at_cond_f rfl (decide_eq_false h36) ?_
    refine at_skip ?_
    refine at_thn ?_
    refine at_seq ?_
    refine at_reg [] [0, 3] (L2 := [(0, .int .i64 p35), (3, str ([] : List UInt8))]) (obs := []) (by kernel_rfl) ?_ ?_
    · intro w hs; exact trivial
    refine at_thn ?_
    refine at_seq ?_
    refine at_block ?_
    refine at_keep [0, 3] (L2 := [(0, .int .i64 p35), (3, str ([] : List UInt8))]) rfl ?_
    refine at_loop (fun k39 L I Ms => ∃ (x37 : Int) (x38 : List UInt8), L = [(0, .int .i64 x37), (3, str x38)] ∧ Ms = ([] ++ Fs) ∧ laws_markText_l0 k39 x37 x38 = some r ∧ ImmLe I0 I ∧ k39 ≤ k) ?_ ?_ k ⟨p35, ([] : List UInt8), rfl, rfl, H, hle, Nat.le_refl _⟩
    · rintro L I Ms ⟨_, _, rfl, rfl, H, _⟩; exact no_none H
    · clear H hle
      intro k39 ih40 L I Ms h_; obtain ⟨x37, x38, hL_, hM_, H, hle, hk41⟩ := h_; rw [hL_, hM_]; clear hL_ hM_ L Ms
      rw [laws_markText_l0] at H
      refine at_seq ?_
      refine at_seq ?_
      refine at_reg [] [0, 3, 7] (L2 := [(0, .int .i64 x37), (3, str x38), (7, .bool (decide (x37 > 0)))]) (obs := []) (by kernel_rfl) ?_ ?_
      · intro w hs; exact trivial
      refine at_thn ?_
      by_cases h42 : x37 > 0
      · rw [if_pos h42] at H
        refine at_cond_t rfl (decide_eq_true h42) ?_
        refine at_skip ?_
        refine at_thn ?_
        refine at_block ?_
        refine at_seq ?_
        refine at_ops [0, 1, 2, 3, 4, 5, 6, 7, 8] rfl ?_
        refine at_seg [0, 1, 2, 3] [4, 5, 6, 7, 8] rfl [] [0, 3, 11] (L2 := [(0, .int .i64 x37), (3, str x38), (11, .int .u8 (IntKind.u8.wrap (IntKind.i64.wrap (48 + (x37.tmod 10)))))]) (obs := [fun _ => ¬ (10 : Int) = 0]) (by kernel_rfl) ?_ ?_
        · intro w hs; exact (by decide : ¬ (10 : Int) = 0)
        refine at_eff rfl rfl ?_
        refine eff_buildSlice (e := 5) (cells := #[.int .u8 (IntKind.u8.wrap (IntKind.i64.wrap (48 + (x37.tmod 10))))]) ([IntKind.u8.wrap (IntKind.i64.wrap (48 + (x37.tmod 10)))] : List Int).length rfl rfl rfl (by kernel_rfl) (fun g43 => ?_)
        have ho44 := own_lit (K := (Kd.int .u8)) (e := 5) (I := I) (xs := ([IntKind.u8.wrap (IntKind.i64.wrap (48 + (x37.tmod 10)))] : List Int)) (css := [[.int .u8 (IntKind.u8.wrap (IntKind.i64.wrap (48 + (x37.tmod 10))))]]) (cells := #[.int .u8 (IntKind.u8.wrap (IntKind.i64.wrap (48 + (x37.tmod 10))))]) (b := g43) ⟨rfl, trivial⟩ rfl
        refine at_eff rfl rfl ?_
        refine eff_bytesStr (xs := ([IntKind.u8.wrap (IntKind.i64.wrap (48 + (x37.tmod 10)))] : List Int)) rfl rfl und34 und5 und9 rfl (fun w hs => ho44.rowAt (k := 0) hs rfl) ?_
        obtain ⟨h45, H⟩ := ite_some H
        refine at_seg [6, 7, 8] [] rfl [] [0, 3] (L2 := [(0, .int .i64 x37), (3, str ((toB ([IntKind.u8.wrap (IntKind.i64.wrap (48 + (x37.tmod 10)))] : List Int)) ++ x38))]) (obs := [fun _ => (toB ([IntKind.u8.wrap (IntKind.i64.wrap (48 + (x37.tmod 10)))] : List Int)).length + x38.length ≤ 9223372036854775807]) (by kernel_rfl) ?_ ?_
        · intro w hs; exact h45
        refine at_end ?_
        refine at_thn ?_
        refine at_reg [] [0, 3] (L2 := [(0, .int .i64 (IntKind.i64.wrap (x37.tdiv 10))), (3, str ((toB ([IntKind.u8.wrap (IntKind.i64.wrap (48 + (x37.tmod 10)))] : List Int)) ++ x38))]) (obs := [fun _ => ¬ (10 : Int) = 0]) (by kernel_rfl) ?_ ?_
        · intro w hs; exact (by decide : ¬ (10 : Int) = 0)
        refine at_in_norm ?_
        refine at_thn ?_
        refine at_drop (k := 0) rfl rfl ?_
        refine at_keep [0, 3] (L2 := [(0, .int .i64 (IntKind.i64.wrap (x37.tdiv 10))), (3, str ((toB ([IntKind.u8.wrap (IntKind.i64.wrap (48 + (x37.tmod 10)))] : List Int)) ++ x38))]) rfl ?_
        exact ih40 _ (by omega) _ _ _ ⟨IntKind.i64.wrap (x37.tdiv 10), (toB ([IntKind.u8.wrap (IntKind.i64.wrap (48 + (x37.tmod 10)))] : List Int)) ++ x38, rfl, rfl, H, hle, by omega⟩
      · rw [if_neg h42] at H
        refine at_cond_f rfl (decide_eq_false h42) ?_
        refine at_exit ?_
        refine at_then_exit ?_
        refine at_then_exit ?_
        refine at_in_hit ?_
        refine at_thn ?_
        refine at_seq ?_
        obtain ⟨h46, H⟩ := ite_some H
        refine at_reg [] [2] (L2 := [(2, str (([109] : List UInt8) ++ x38))]) (obs := [fun _ => ([109] : List UInt8).length + x38.length ≤ 9223372036854775807]) (by kernel_rfl) ?_ ?_
        · intro w hs; exact h46
        refine at_thn ?_
        refine at_ret ?_
        obtain rfl := Option.some.inj H
        refine at_done (vs := [str (([109] : List UInt8) ++ x38)]) (obs := []) (.inl rfl) [.tmp 2] [] rfl (by kernel_rfl) (fun w hs => trivial) (fun w hs => ⟨_, _, [], rfl, ⟨rfl, rfl⟩, hle, hs⟩)

/-! ### loop.example/g00146/laws.markStringS: function 8 -/
def laws_markStringS_l0 : Nat → (List (List UInt8)) → Int → Int → (List (List UInt8)) → Option (Int × (List (List UInt8)))
  | 0, _, _, _, _ => none
  | k + 1, x40, x45, x46, p34 => if x46 < (x40.length : Int) then ((laws_markText k x45).bind fun b4 => (if 0 ≤ x46 then (laws_markStringS_l0 k (x40.set x46.toNat b4) (IntKind.i64.wrap (x45 + 1)) (IntKind.i64.wrap (x46 + 1)) p34) else none)) else (if x40.length = p34.length then (some (x45, x40)) else none)
def laws_markStringS (k : Nat) (p34 : List (List UInt8)) (p39 : Int) : Option (Int × (List (List UInt8))) := laws_markStringS_l0 k p34 p39 0 p34
set_option maxHeartbeats 4000000 in
set_option maxRecDepth 100000 in
theorem laws_markStringS.calls {k : Nat} {p34 : List (List UInt8)} {p39 : Int} {r : Int × (List (List UInt8))} {I0 : Imm} {A35 : Option Addr} {c36 : Nat} {s37 : Seg} (H : laws_markStringS k p34 p39 = some r) (ho38 : Own Kd.string 9 I0 A35 c36 p34 s37) :
    Meets Try.prog 8 ([.slice A35 p34.length c36, .int .i64 p39] : List Value).toArray I0 [s37] (fun v J M => ∃ (s_1 : Seg), v = .int .i64 r.1 ∧ M = [s_1] ∧ Own Kd.string 9 J A35 c36 r.2 s_1 ∧ r.2.length = p34.length) := by
  have hle := ImmLe.refl I0
  unfold laws_markStringS at H
  refine fn_intro (fn := Try.f8) 20 Try.func8 rfl rfl rfl (fun E Fs => ?_)
  refine at_seq ?_
  refine at_reg [] [0, 1] (L2 := [(0, .slice A35 p34.length c36), (1, .int .i64 p39)]) (obs := []) (by kernel_rfl) ?_ ?_
  · intro w hs; exact trivial
  refine at_thn ?_
  refine at_seq ?_
  refine at_seq ?_
  refine at_reg [] [0, 1, 5] (L2 := [(0, .slice A35 p34.length c36), (1, .int .i64 p39), (5, .int .i64 0)]) (obs := []) (by kernel_rfl) ?_ ?_
  · intro w hs; exact trivial
  refine at_thn ?_
  refine at_block ?_
  refine at_keep [0, 1, 5] (L2 := [(0, .slice A35 p34.length c36), (1, .int .i64 p39), (5, .int .i64 0)]) rfl ?_
  refine at_loop (fun k47 L I Ms => ∃ (x40 : List (List UInt8)) (s43 : Seg) (x45 : Int) (x46 : Int), L = [(0, .slice A35 x40.length c36), (1, .int .i64 x45), (5, .int .i64 x46)] ∧ Ms = (s43 :: Fs) ∧ laws_markStringS_l0 k47 x40 x45 x46 p34 = some r ∧ ImmLe I0 I ∧ k47 ≤ k ∧ Own Kd.string 9 I A35 c36 x40 s43) ?_ ?_ k ⟨p34, s37, p39, 0, rfl, rfl, H, hle, Nat.le_refl _, ho38⟩
  · rintro L I Ms ⟨_, _, _, _, rfl, rfl, H, _⟩; exact no_none H
  · clear H hle ho38
    intro k47 ih48 L I Ms h_; obtain ⟨x40, s43, x45, x46, hL_, hM_, H, hle, hk49, ho44⟩ := h_; rw [hL_, hM_]; clear hL_ hM_ L Ms
    rw [laws_markStringS_l0] at H
    refine at_seq ?_
    refine at_seq ?_
    refine at_reg [] [0, 1, 5, 9] (L2 := [(0, .slice A35 x40.length c36), (1, .int .i64 x45), (5, .int .i64 x46), (9, .bool (decide (x46 < (x40.length : Int))))]) (obs := []) (by kernel_rfl) ?_ ?_
    · intro w hs; exact trivial
    refine at_thn ?_
    by_cases h50 : x46 < (x40.length : Int)
    · rw [if_pos h50] at H
      refine at_cond_t rfl (decide_eq_true h50) ?_
      refine at_skip ?_
      refine at_thn ?_
      refine at_seq ?_
      refine at_block ?_
      refine at_seq ?_
      refine at_ops [0, 1, 2, 3, 4, 5] rfl ?_
      refine at_seg [0, 1, 2] [3, 4, 5] rfl [] [0, 1, 5, 12, 13, 14] (L2 := [(0, .slice A35 x40.length c36), (1, .int .i64 x45), (5, .int .i64 x46), (12, .slice A35 x40.length c36), (13, .int .i64 x46), (14, .int .i64 x45)]) (obs := []) (by kernel_rfl) ?_ ?_
      · intro w hs; exact trivial
      refine at_eff rfl rfl ?_
      obtain ⟨b4, H51, H⟩ := bind_some H
      have hm_ := laws_markText.calls (I0 := I) H51
      refine eff_call rfl rfl ok14 rfl rfl (show Meets Try.prog 14 ([.int .i64 x45] : List Value).toArray _ [] _ from hm_) (Mr := (s43 :: Fs)) (List.Perm.refl _) (fun v52 J53 M54 hq55 hJ56 => ?_)
      replace hle := hle.trans hJ56
      replace ho44 := ho44.mono hJ56
      obtain ⟨rfl, rfl⟩ := hq55
      obtain ⟨h57, H⟩ := ite_some H
      refine at_seg [4] [5] rfl [] [0, 1, 5, 15, 16] (L2 := [(0, .slice A35 x40.length c36), (1, .int .i64 x45), (5, .int .i64 x46), (15, str b4), (16, .pointer (some ((A35.getD ad0).add (x46.toNat * 1))))]) (obs := [fun _ => A35.isSome = true ∧ 0 ≤ x46 ∧ x46 < ((x40.length : Nat) : Int)]) (by kernel_rfl) ?_ ?_
      · intro w hs; exact ⟨ho44.ne x46 h57 h50, h57, h50⟩
      refine at_eff rfl rfl ?_
      refine eff_storeOwn (K := Kd.string) (u := b4) 0 0 [] x46 rfl rfl rfl rfl ho44 rfl h57 h50 (add0 _).symm rfl (Nat.le_of_ble_eq_true (by kernel_rfl)) rfl (by rintro cs_ rfl; rfl) (fun s58 ho59 => ?_)
      refine at_eqL2 (L1 := [(0, .slice A35 x40.length c36), (1, .int .i64 x45), (5, .int .i64 x46), (15, str b4), (16, .pointer (some ((A35.getD ad0).add (x46.toNat * 1))))]) (L2 := [(0, .slice A35 (x40.set x46.toNat b4).length c36), (1, .int .i64 x45), (5, .int .i64 x46), (15, str b4), (16, .pointer (some ((A35.getD ad0).add (x46.toNat * 1))))]) rfl (by simp only [List.length_set]) ?_
      refine at_end ?_
      refine at_thn ?_
      refine at_reg [] [0, 1, 5] (L2 := [(0, .slice A35 (x40.set x46.toNat b4).length c36), (1, .int .i64 (IntKind.i64.wrap (x45 + 1))), (5, .int .i64 x46)]) (obs := []) (by kernel_rfl) ?_ ?_
      · intro w hs; exact trivial
      refine at_in_norm ?_
      refine at_thn ?_
      refine at_reg [] [0, 1, 5] (L2 := [(0, .slice A35 (x40.set x46.toNat b4).length c36), (1, .int .i64 (IntKind.i64.wrap (x45 + 1))), (5, .int .i64 (IntKind.i64.wrap (x46 + 1)))]) (obs := []) (by kernel_rfl) ?_ ?_
      · intro w hs; exact trivial
      refine at_thn ?_
      refine at_keep [0, 1, 5] (L2 := [(0, .slice A35 (x40.set x46.toNat b4).length c36), (1, .int .i64 (IntKind.i64.wrap (x45 + 1))), (5, .int .i64 (IntKind.i64.wrap (x46 + 1)))]) rfl ?_
      exact ih48 _ (by omega) _ _ _ ⟨x40.set x46.toNat b4, s58, IntKind.i64.wrap (x45 + 1), IntKind.i64.wrap (x46 + 1), rfl, rfl, H, hle, by omega, ho59⟩
    · rw [if_neg h50] at H
      refine at_cond_f rfl (decide_eq_false h50) ?_
      refine at_exit ?_
      refine at_then_exit ?_
      refine at_then_exit ?_
      refine at_in_hit ?_
      refine at_thn ?_
      refine at_seq ?_
      refine at_reg [] [0, 4] (L2 := [(0, .slice A35 x40.length c36), (4, .int .i64 x45)]) (obs := []) (by kernel_rfl) ?_ ?_
      · intro w hs; exact trivial
      refine at_thn ?_
      refine at_ret ?_
      obtain ⟨h60, H⟩ := ite_some H
      obtain rfl := Option.some.inj H
      refine at_done (vs := [.int .i64 x45]) (obs := []) (.inl rfl) [.tmp 4] [] rfl (by kernel_rfl) (fun w hs => trivial) (fun w hs => ⟨_, _, [s43], rfl, ⟨s43, rfl, rfl, ho44, h60⟩, hle, hs⟩)

/-! ### loop.example/g00146/laws.heldStringS: function 9 -/
def laws_heldStringS_l0 : Nat → Int → Int → (List (List UInt8)) → Option Int
  | 0, _, _, _ => none
  | k + 1, x43, x44, p38 => if x44 < (p38.length : Int) then (if 0 ≤ x44 then ((laws_markText k x43).bind fun b5 => (if (rdA [] p38 x44) = b5 then (laws_heldStringS_l0 k (IntKind.i64.wrap (x43 + 1)) (IntKind.i64.wrap (x44 + 1)) p38) else (some (-1)))) else none) else (some x43)
def laws_heldStringS (k : Nat) (p38 : List (List UInt8)) (p42 : Int) : Option Int := laws_heldStringS_l0 k p42 0 p38
set_option maxHeartbeats 4000000 in
set_option maxRecDepth 100000 in
theorem laws_heldStringS.calls {k : Nat} {p38 : List (List UInt8)} {p42 : Int} {r : Int} {I0 : Imm} {A39 : Option Addr} {c40 : Nat} (H : laws_heldStringS k p38 p42 = some r) (hr41 : Rd Kd.string I0 A39 c40 p38) :
    Meets Try.prog 9 ([.slice A39 p38.length c40, .int .i64 p42] : List Value).toArray I0 [] (fun v J M => v = .int .i64 r ∧ M = []) := by
  have hle := ImmLe.refl I0
  unfold laws_heldStringS at H
  refine fn_intro (fn := Try.f9) 22 Try.func9 rfl rfl rfl (fun E Fs => ?_)
  refine at_seq ?_
  refine at_reg [] [0, 1] (L2 := [(0, .slice A39 p38.length c40), (1, .int .i64 p42)]) (obs := []) (by kernel_rfl) ?_ ?_
  · intro w hs; exact trivial
  refine at_thn ?_
  refine at_seq ?_
  refine at_seq ?_
  refine at_reg [] [0, 1, 5] (L2 := [(0, .slice A39 p38.length c40), (1, .int .i64 p42), (5, .int .i64 0)]) (obs := []) (by kernel_rfl) ?_ ?_
  · intro w hs; exact trivial
  refine at_thn ?_
  refine at_block ?_
  refine at_keep [0, 1, 5] (L2 := [(0, .slice A39 p38.length c40), (1, .int .i64 p42), (5, .int .i64 0)]) rfl ?_
  refine at_loop (fun k45 L I Ms => ∃ (x43 : Int) (x44 : Int), L = [(0, .slice A39 p38.length c40), (1, .int .i64 x43), (5, .int .i64 x44)] ∧ Ms = ([] ++ Fs) ∧ laws_heldStringS_l0 k45 x43 x44 p38 = some r ∧ ImmLe I0 I ∧ k45 ≤ k ∧ Rd Kd.string I A39 c40 p38) ?_ ?_ k ⟨p42, 0, rfl, rfl, H, hle, Nat.le_refl _, hr41⟩
  · rintro L I Ms ⟨_, _, rfl, rfl, H, _⟩; exact no_none H
  · clear H hle hr41
    intro k45 ih46 L I Ms h_; obtain ⟨x43, x44, hL_, hM_, H, hle, hk47, hr41⟩ := h_; rw [hL_, hM_]; clear hL_ hM_ L Ms
    rw [laws_heldStringS_l0] at H
    refine at_seq ?_
    refine at_seq ?_
    refine at_reg [] [0, 1, 5, 9] (L2 := [(0, .slice A39 p38.length c40), (1, .int .i64 x43), (5, .int .i64 x44), (9, .bool (decide (x44 < (p38.length : Int))))]) (obs := []) (by kernel_rfl) ?_ ?_
    · intro w hs; exact trivial
    refine at_thn ?_
    by_cases h48 : x44 < (p38.length : Int)
    · rw [if_pos h48] at H
      refine at_cond_t rfl (decide_eq_true h48) ?_
      refine at_skip ?_
      refine at_thn ?_
      refine at_seq ?_
      refine at_block ?_
      refine at_seq ?_
      refine at_seq ?_
      obtain ⟨h49, H⟩ := ite_some H
      refine at_x hmo (fun w => w.cell? ((A39.getD ad0).add (x44.toNat * 1)) = some (str (rdA [] p38 x44))) [] ?_
      refine at_xseg [0, 1, 2, 3, 4] 2 (#[true, true, true, true, true, false, false]) rfl (by kernel_rfl) [(3, str (rdA [] p38 x44))] [0, 1, 5, 15, 16] (L2 := [(0, .slice A39 p38.length c40), (1, .int .i64 x43), (5, .int .i64 x44), (15, str (rdA [] p38 x44)), (16, .int .i64 x43)]) (obs := [fun _ => A39.isSome = true ∧ 0 ≤ x44 ∧ x44 < ((p38.length : Nat) : Int), fun w => w.cell? ((A39.getD ad0).add (x44.toNat * 1)) = some (str (rdA [] p38 x44))]) (by kernel_rfl) (by kernel_rfl) (by kernel_rfl) (.inr fun w hs => hr41.one [] x44 h49 h48 hs) (fun w hS => ⟨⟨hr41.ne x44 h49 h48, h49, h48⟩, hS⟩) (fun w hs => ⟨⟨hr41.ne x44 h49 h48, h49, h48⟩, hr41.one [] x44 h49 h48 hs⟩) ?_
      refine at_x1 1 5 (#[true, true, true, true, true, true, false]) rfl (by kernel_rfl) (by kernel_rfl) rfl rfl ?_
      obtain ⟨b5, H50, H⟩ := bind_some H
      have hm_ := laws_markText.calls (I0 := I) H50
      refine eff_call rfl rfl ok14 rfl rfl (show Meets Try.prog 14 ([.int .i64 x43] : List Value).toArray _ [] _ from hm_) (Mr := (Fs)) (List.Perm.refl _) (fun v51 J52 M53 hq54 hJ55 => ?_)
      replace hle := hle.trans hJ55
      replace hr41 := hr41.mono hJ55
      obtain ⟨rfl, rfl⟩ := hq54
      refine at_xS (fun w hs => hr41.one [] x44 h49 h48 hs) ?_
      refine at_xseg [6] 0 (#[true, true, true, true, true, true, true]) rfl (by kernel_rfl) [] [0, 1, 5, 18] (L2 := [(0, .slice A39 p38.length c40), (1, .int .i64 x43), (5, .int .i64 x44), (18, .bool (!((rdA [] p38 x44) == b5)))]) (obs := []) (by kernel_rfl) (by kernel_rfl) (by kernel_rfl) (.inr fun w hs => hr41.one [] x44 h49 h48 hs) (fun w hS => trivial) (fun w hs => trivial) ?_
      refine at_xend (by kernel_rfl) ?_
      refine at_thn ?_
      by_cases h56 : (rdA [] p38 x44) = b5
      · rw [if_pos h56] at H
        refine at_cond_f rfl (not_ff (beq_iff_eq.2 h56)) ?_
        refine at_skip ?_
        refine at_thn ?_
        refine at_reg [] [0, 1, 5] (L2 := [(0, .slice A39 p38.length c40), (1, .int .i64 (IntKind.i64.wrap (x43 + 1))), (5, .int .i64 x44)]) (obs := []) (by kernel_rfl) ?_ ?_
        · intro w hs; exact trivial
        refine at_in_norm ?_
        refine at_thn ?_
        refine at_reg [] [0, 1, 5] (L2 := [(0, .slice A39 p38.length c40), (1, .int .i64 (IntKind.i64.wrap (x43 + 1))), (5, .int .i64 (IntKind.i64.wrap (x44 + 1)))]) (obs := []) (by kernel_rfl) ?_ ?_
        · intro w hs; exact trivial
        refine at_thn ?_
        refine at_keep [0, 1, 5] (L2 := [(0, .slice A39 p38.length c40), (1, .int .i64 (IntKind.i64.wrap (x43 + 1))), (5, .int .i64 (IntKind.i64.wrap (x44 + 1)))]) rfl ?_
        exact ih46 _ (by omega) _ _ _ ⟨IntKind.i64.wrap (x43 + 1), IntKind.i64.wrap (x44 + 1), rfl, rfl, H, hle, by omega, hr41⟩
      · rw [if_neg h56] at H
        refine at_cond_t rfl (not_tt (beq_eq_false_iff_ne.2 h56)) ?_
        refine at_seq ?_
        refine at_reg [] [4] (L2 := [(4, .int .i64 (-1))]) (obs := []) (by kernel_rfl) ?_ ?_
        · intro w hs; exact trivial
        refine at_thn ?_
        refine at_ret ?_
        refine at_then_ret ?_
        refine at_in_ret ?_
        refine at_then_ret ?_
        refine at_then_ret ?_
        refine at_in_ret ?_
        refine at_then_ret ?_
        obtain rfl := Option.some.inj H
        refine at_done (vs := [.int .i64 (-1)]) (obs := []) (.inl rfl) [.tmp 4] [] rfl (by kernel_rfl) (fun w hs => trivial) (fun w hs => ⟨_, _, [], rfl, ⟨rfl, rfl⟩, hle, hs⟩)
    · rw [if_neg h48] at H
      refine at_cond_f rfl (decide_eq_false h48) ?_
      refine at_exit ?_
      refine at_then_exit ?_
      refine at_then_exit ?_
      refine at_in_hit ?_
      refine at_thn ?_
      refine at_seq ?_
      refine at_reg [] [4] (L2 := [(4, .int .i64 x43)]) (obs := []) (by kernel_rfl) ?_ ?_
      · intro w hs; exact trivial
      refine at_thn ?_
      refine at_ret ?_
      obtain rfl := Option.some.inj H
      refine at_done (vs := [.int .i64 x43]) (obs := []) (.inl rfl) [.tmp 4] [] rfl (by kernel_rfl) (fun w hs => trivial) (fun w hs => ⟨_, _, [], rfl, ⟨rfl, rfl⟩, hle, hs⟩)
end Go.Proofs.Ytgdbigafcjaohaa
