import Derived.Test.YtgdbigafcjaohaaG0
namespace Go.Proofs.Ytgdbigafcjaohaa
open Go Eng
set_option linter.unusedVariables false
set_option linter.unusedSimpArgs false
/-! ### loop.example/g00146/spec.EdNames: function 5 -/
def spec_EdNames : Option (List (List UInt8)) := some ([([97, 99, 99, 101, 112, 116] : List UInt8), ([98, 101, 108, 108] : List UInt8), ([99, 111, 109, 112, 108, 101, 116, 101] : List UInt8), ([99, 111, 112, 121, 45, 114, 101, 103, 105, 111, 110] : List UInt8), ([100, 101, 108, 101, 116, 101] : List UInt8), ([100, 101, 108, 101, 116, 101, 45, 98, 97, 99, 107] : List UInt8), ([100, 111, 119, 110] : List UInt8), ([100, 111, 119, 110, 45, 104, 105, 115, 116, 111, 114, 121] : List UInt8), ([102, 105, 114, 115, 116] : List UInt8), ([107, 105, 108, 108, 45, 98, 97, 99, 107] : List UInt8), ([107, 105, 108, 108, 45, 108, 105, 110, 101] : List UInt8), ([107, 105, 108, 108, 45, 114, 101, 103, 105, 111, 110] : List UInt8), ([107, 105, 108, 108, 45, 119, 111, 114, 100] : List UInt8), ([108, 97, 115, 116] : List UInt8), ([108, 101, 102, 116] : List UInt8), ([108, 105, 110, 101, 45, 101, 110, 100] : List UInt8), ([108, 105, 110, 101, 45, 115, 116, 97, 114, 116] : List UInt8), ([110, 101, 119, 108, 105, 110, 101] : List UInt8), ([114, 101, 100, 111] : List UInt8), ([114, 105, 103, 104, 116] : List UInt8), ([115, 101, 116, 45, 109, 97, 114, 107] : List UInt8), ([117, 110, 100, 111] : List UInt8), ([117, 112] : List UInt8), ([117, 112, 45, 104, 105, 115, 116, 111, 114, 121] : List UInt8), ([118, 105, 45, 99, 111, 109, 109, 97, 110, 100] : List UInt8), ([118, 105, 45, 105, 110, 115, 101, 114, 116] : List UInt8), ([119, 111, 114, 100, 45, 98, 97, 99, 107] : List UInt8), ([119, 111, 114, 100, 45, 110, 101, 120, 116] : List UInt8), ([121, 97, 110, 107] : List UInt8), ([121, 97, 110, 107, 45, 112, 111, 112] : List UInt8)] : List (List UInt8))
set_option maxHeartbeats 4000000 in
set_option maxRecDepth 100000 in
theorem spec_EdNames.calls {r : (List (List UInt8))} {I0 : Imm} (H : spec_EdNames = some r) :
    Meets Try.prog 5 ([] : List Value).toArray I0 [] (fun v J M => ∃ (A_1 : Option Addr) (c_2 : Nat) (s_3 : Seg), v = .slice A_1 r.length c_2 ∧ M = [s_3] ∧ Own Kd.string 9 J A_1 c_2 r s_3) := by
  have hle := ImmLe.refl I0
  unfold spec_EdNames at H
  refine fn_intro (fn := Try.f5) 2 Try.func5 rfl rfl rfl (fun E Fs => ?_)
  refine at_seq ?_
  refine at_reg [] [] (L2 := []) (obs := []) (by kernel_rfl) ?_ ?_
  · intro w hs; exact trivial
  refine at_thn ?_
  refine at_seq ?_
  refine at_ops [0, 1] rfl ?_
  refine at_eff rfl rfl ?_
  refine eff_buildSlice (e := 9) (cells := #[str ([97, 99, 99, 101, 112, 116] : List UInt8), str ([98, 101, 108, 108] : List UInt8), str ([99, 111, 109, 112, 108, 101, 116, 101] : List UInt8), str ([99, 111, 112, 121, 45, 114, 101, 103, 105, 111, 110] : List UInt8), str ([100, 101, 108, 101, 116, 101] : List UInt8), str ([100, 101, 108, 101, 116, 101, 45, 98, 97, 99, 107] : List UInt8), str ([100, 111, 119, 110] : List UInt8), str ([100, 111, 119, 110, 45, 104, 105, 115, 116, 111, 114, 121] : List UInt8), str ([102, 105, 114, 115, 116] : List UInt8), str ([107, 105, 108, 108, 45, 98, 97, 99, 107] : List UInt8), str ([107, 105, 108, 108, 45, 108, 105, 110, 101] : List UInt8), str ([107, 105, 108, 108, 45, 114, 101, 103, 105, 111, 110] : List UInt8), str ([107, 105, 108, 108, 45, 119, 111, 114, 100] : List UInt8), str ([108, 97, 115, 116] : List UInt8), str ([108, 101, 102, 116] : List UInt8), str ([108, 105, 110, 101, 45, 101, 110, 100] : List UInt8), str ([108, 105, 110, 101, 45, 115, 116, 97, 114, 116] : List UInt8), str ([110, 101, 119, 108, 105, 110, 101] : List UInt8), str ([114, 101, 100, 111] : List UInt8), str ([114, 105, 103, 104, 116] : List UInt8), str ([115, 101, 116, 45, 109, 97, 114, 107] : List UInt8), str ([117, 110, 100, 111] : List UInt8), str ([117, 112] : List UInt8), str ([117, 112, 45, 104, 105, 115, 116, 111, 114, 121] : List UInt8), str ([118, 105, 45, 99, 111, 109, 109, 97, 110, 100] : List UInt8), str ([118, 105, 45, 105, 110, 115, 101, 114, 116] : List UInt8), str ([119, 111, 114, 100, 45, 98, 97, 99, 107] : List UInt8), str ([119, 111, 114, 100, 45, 110, 101, 120, 116] : List UInt8), str ([121, 97, 110, 107] : List UInt8), str ([121, 97, 110, 107, 45, 112, 111, 112] : List UInt8)]) ([([97, 99, 99, 101, 112, 116] : List UInt8), ([98, 101, 108, 108] : List UInt8), ([99, 111, 109, 112, 108, 101, 116, 101] : List UInt8), ([99, 111, 112, 121, 45, 114, 101, 103, 105, 111, 110] : List UInt8), ([100, 101, 108, 101, 116, 101] : List UInt8), ([100, 101, 108, 101, 116, 101, 45, 98, 97, 99, 107] : List UInt8), ([100, 111, 119, 110] : List UInt8), ([100, 111, 119, 110, 45, 104, 105, 115, 116, 111, 114, 121] : List UInt8), ([102, 105, 114, 115, 116] : List UInt8), ([107, 105, 108, 108, 45, 98, 97, 99, 107] : List UInt8), ([107, 105, 108, 108, 45, 108, 105, 110, 101] : List UInt8), ([107, 105, 108, 108, 45, 114, 101, 103, 105, 111, 110] : List UInt8), ([107, 105, 108, 108, 45, 119, 111, 114, 100] : List UInt8), ([108, 97, 115, 116] : List UInt8), ([108, 101, 102, 116] : List UInt8), ([108, 105, 110, 101, 45, 101, 110, 100] : List UInt8), ([108, 105, 110, 101, 45, 115, 116, 97, 114, 116] : List UInt8), ([110, 101, 119, 108, 105, 110, 101] : List UInt8), ([114, 101, 100, 111] : List UInt8), ([114, 105, 103, 104, 116] : List UInt8), ([115, 101, 116, 45, 109, 97, 114, 107] : List UInt8), ([117, 110, 100, 111] : List UInt8), ([117, 112] : List UInt8), ([117, 112, 45, 104, 105, 115, 116, 111, 114, 121] : List UInt8), ([118, 105, 45, 99, 111, 109, 109, 97, 110, 100] : List UInt8), ([118, 105, 45, 105, 110, 115, 101, 114, 116] : List UInt8), ([119, 111, 114, 100, 45, 98, 97, 99, 107] : List UInt8), ([119, 111, 114, 100, 45, 110, 101, 120, 116] : List UInt8), ([121, 97, 110, 107] : List UInt8), ([121, 97, 110, 107, 45, 112, 111, 112] : List UInt8)] : List (List UInt8)).length rfl rfl rfl (by kernel_rfl) (fun g1 => ?_)
  have ho2 := own_lit (K := Kd.string) (e := 9) (I := I0) (xs := ([([97, 99, 99, 101, 112, 116] : List UInt8), ([98, 101, 108, 108] : List UInt8), ([99, 111, 109, 112, 108, 101, 116, 101] : List UInt8), ([99, 111, 112, 121, 45, 114, 101, 103, 105, 111, 110] : List UInt8), ([100, 101, 108, 101, 116, 101] : List UInt8), ([100, 101, 108, 101, 116, 101, 45, 98, 97, 99, 107] : List UInt8), ([100, 111, 119, 110] : List UInt8), ([100, 111, 119, 110, 45, 104, 105, 115, 116, 111, 114, 121] : List UInt8), ([102, 105, 114, 115, 116] : List UInt8), ([107, 105, 108, 108, 45, 98, 97, 99, 107] : List UInt8), ([107, 105, 108, 108, 45, 108, 105, 110, 101] : List UInt8), ([107, 105, 108, 108, 45, 114, 101, 103, 105, 111, 110] : List UInt8), ([107, 105, 108, 108, 45, 119, 111, 114, 100] : List UInt8), ([108, 97, 115, 116] : List UInt8), ([108, 101, 102, 116] : List UInt8), ([108, 105, 110, 101, 45, 101, 110, 100] : List UInt8), ([108, 105, 110, 101, 45, 115, 116, 97, 114, 116] : List UInt8), ([110, 101, 119, 108, 105, 110, 101] : List UInt8), ([114, 101, 100, 111] : List UInt8), ([114, 105, 103, 104, 116] : List UInt8), ([115, 101, 116, 45, 109, 97, 114, 107] : List UInt8), ([117, 110, 100, 111] : List UInt8), ([117, 112] : List UInt8), ([117, 112, 45, 104, 105, 115, 116, 111, 114, 121] : List UInt8), ([118, 105, 45, 99, 111, 109, 109, 97, 110, 100] : List UInt8), ([118, 105, 45, 105, 110, 115, 101, 114, 116] : List UInt8), ([119, 111, 114, 100, 45, 98, 97, 99, 107] : List UInt8), ([119, 111, 114, 100, 45, 110, 101, 120, 116] : List UInt8), ([121, 97, 110, 107] : List UInt8), ([121, 97, 110, 107, 45, 112, 111, 112] : List UInt8)] : List (List UInt8))) (css := [[str ([97, 99, 99, 101, 112, 116] : List UInt8)], [str ([98, 101, 108, 108] : List UInt8)], [str ([99, 111, 109, 112, 108, 101, 116, 101] : List UInt8)], [str ([99, 111, 112, 121, 45, 114, 101, 103, 105, 111, 110] : List UInt8)], [str ([100, 101, 108, 101, 116, 101] : List UInt8)], [str ([100, 101, 108, 101, 116, 101, 45, 98, 97, 99, 107] : List UInt8)], [str ([100, 111, 119, 110] : List UInt8)], [str ([100, 111, 119, 110, 45, 104, 105, 115, 116, 111, 114, 121] : List UInt8)], [str ([102, 105, 114, 115, 116] : List UInt8)], [str ([107, 105, 108, 108, 45, 98, 97, 99, 107] : List UInt8)], [str ([107, 105, 108, 108, 45, 108, 105, 110, 101] : List UInt8)], [str ([107, 105, 108, 108, 45, 114, 101, 103, 105, 111, 110] : List UInt8)], [str ([107, 105, 108, 108, 45, 119, 111, 114, 100] : List UInt8)], [str ([108, 97, 115, 116] : List UInt8)], [str ([108, 101, 102, 116] : List UInt8)], [str ([108, 105, 110, 101, 45, 101, 110, 100] : List UInt8)], [str ([108, 105, 110, 101, 45, 115, 116, 97, 114, 116] : List UInt8)], [str ([110, 101, 119, 108, 105, 110, 101] : List UInt8)], [str ([114, 101, 100, 111] : List UInt8)], [str ([114, 105, 103, 104, 116] : List UInt8)], [str ([115, 101, 116, 45, 109, 97, 114, 107] : List UInt8)], [str ([117, 110, 100, 111] : List UInt8)], [str ([117, 112] : List UInt8)], [str ([117, 112, 45, 104, 105, 115, 116, 111, 114, 121] : List UInt8)], [str ([118, 105, 45, 99, 111, 109, 109, 97, 110, 100] : List UInt8)], [str ([118, 105, 45, 105, 110, 115, 101, 114, 116] : List UInt8)], [str ([119, 111, 114, 100, 45, 98, 97, 99, 107] : List UInt8)], [str ([119, 111, 114, 100, 45, 110, 101, 120, 116] : List UInt8)], [str ([121, 97, 110, 107] : List UInt8)], [str ([121, 97, 110, 107, 45, 112, 111, 112] : List UInt8)]]) (cells := #[str ([97, 99, 99, 101, 112, 116] : List UInt8), str ([98, 101, 108, 108] : List UInt8), str ([99, 111, 109, 112, 108, 101, 116, 101] : List UInt8), str ([99, 111, 112, 121, 45, 114, 101, 103, 105, 111, 110] : List UInt8), str ([100, 101, 108, 101, 116, 101] : List UInt8), str ([100, 101, 108, 101, 116, 101, 45, 98, 97, 99, 107] : List UInt8), str ([100, 111, 119, 110] : List UInt8), str ([100, 111, 119, 110, 45, 104, 105, 115, 116, 111, 114, 121] : List UInt8), str ([102, 105, 114, 115, 116] : List UInt8), str ([107, 105, 108, 108, 45, 98, 97, 99, 107] : List UInt8), str ([107, 105, 108, 108, 45, 108, 105, 110, 101] : List UInt8), str ([107, 105, 108, 108, 45, 114, 101, 103, 105, 111, 110] : List UInt8), str ([107, 105, 108, 108, 45, 119, 111, 114, 100] : List UInt8), str ([108, 97, 115, 116] : List UInt8), str ([108, 101, 102, 116] : List UInt8), str ([108, 105, 110, 101, 45, 101, 110, 100] : List UInt8), str ([108, 105, 110, 101, 45, 115, 116, 97, 114, 116] : List UInt8), str ([110, 101, 119, 108, 105, 110, 101] : List UInt8), str ([114, 101, 100, 111] : List UInt8), str ([114, 105, 103, 104, 116] : List UInt8), str ([115, 101, 116, 45, 109, 97, 114, 107] : List UInt8), str ([117, 110, 100, 111] : List UInt8), str ([117, 112] : List UInt8), str ([117, 112, 45, 104, 105, 115, 116, 111, 114, 121] : List UInt8), str ([118, 105, 45, 99, 111, 109, 109, 97, 110, 100] : List UInt8), str ([118, 105, 45, 105, 110, 115, 101, 114, 116] : List UInt8), str ([119, 111, 114, 100, 45, 98, 97, 99, 107] : List UInt8), str ([119, 111, 114, 100, 45, 110, 101, 120, 116] : List UInt8), str ([121, 97, 110, 107] : List UInt8), str ([121, 97, 110, 107, 45, 112, 111, 112] : List UInt8)]) (b := g1) ⟨rfl, ⟨rfl, ⟨rfl, ⟨rfl, ⟨rfl, ⟨rfl, ⟨rfl, ⟨rfl, ⟨rfl, ⟨rfl, ⟨rfl, ⟨rfl, ⟨rfl, ⟨rfl, ⟨rfl, ⟨rfl, ⟨rfl, ⟨rfl, ⟨rfl, ⟨rfl, ⟨rfl, ⟨rfl, ⟨rfl, ⟨rfl, ⟨rfl, ⟨rfl, ⟨rfl, ⟨rfl, ⟨rfl, ⟨rfl, trivial⟩⟩⟩⟩⟩⟩⟩⟩⟩⟩⟩⟩⟩⟩⟩⟩⟩⟩⟩⟩⟩⟩⟩⟩⟩⟩⟩⟩⟩⟩ rfl
  refine at_seg [1] [] rfl [] [0] (L2 := [(0, .slice (some ⟨g1, 0, none⟩ : Option Addr) ([([97, 99, 99, 101, 112, 116] : List UInt8), ([98, 101, 108, 108] : List UInt8), ([99, 111, 109, 112, 108, 101, 116, 101] : List UInt8), ([99, 111, 112, 121, 45, 114, 101, 103, 105, 111, 110] : List UInt8), ([100, 101, 108, 101, 116, 101] : List UInt8), ([100, 101, 108, 101, 116, 101, 45, 98, 97, 99, 107] : List UInt8), ([100, 111, 119, 110] : List UInt8), ([100, 111, 119, 110, 45, 104, 105, 115, 116, 111, 114, 121] : List UInt8), ([102, 105, 114, 115, 116] : List UInt8), ([107, 105, 108, 108, 45, 98, 97, 99, 107] : List UInt8), ([107, 105, 108, 108, 45, 108, 105, 110, 101] : List UInt8), ([107, 105, 108, 108, 45, 114, 101, 103, 105, 111, 110] : List UInt8), ([107, 105, 108, 108, 45, 119, 111, 114, 100] : List UInt8), ([108, 97, 115, 116] : List UInt8), ([108, 101, 102, 116] : List UInt8), ([108, 105, 110, 101, 45, 101, 110, 100] : List UInt8), ([108, 105, 110, 101, 45, 115, 116, 97, 114, 116] : List UInt8), ([110, 101, 119, 108, 105, 110, 101] : List UInt8), ([114, 101, 100, 111] : List UInt8), ([114, 105, 103, 104, 116] : List UInt8), ([115, 101, 116, 45, 109, 97, 114, 107] : List UInt8), ([117, 110, 100, 111] : List UInt8), ([117, 112] : List UInt8), ([117, 112, 45, 104, 105, 115, 116, 111, 114, 121] : List UInt8), ([118, 105, 45, 99, 111, 109, 109, 97, 110, 100] : List UInt8), ([118, 105, 45, 105, 110, 115, 101, 114, 116] : List UInt8), ([119, 111, 114, 100, 45, 98, 97, 99, 107] : List UInt8), ([119, 111, 114, 100, 45, 110, 101, 120, 116] : List UInt8), ([121, 97, 110, 107] : List UInt8), ([121, 97, 110, 107, 45, 112, 111, 112] : List UInt8)] : List (List UInt8)).length (([([97, 99, 99, 101, 112, 116] : List UInt8), ([98, 101, 108, 108] : List UInt8), ([99, 111, 109, 112, 108, 101, 116, 101] : List UInt8), ([99, 111, 112, 121, 45, 114, 101, 103, 105, 111, 110] : List UInt8), ([100, 101, 108, 101, 116, 101] : List UInt8), ([100, 101, 108, 101, 116, 101, 45, 98, 97, 99, 107] : List UInt8), ([100, 111, 119, 110] : List UInt8), ([100, 111, 119, 110, 45, 104, 105, 115, 116, 111, 114, 121] : List UInt8), ([102, 105, 114, 115, 116] : List UInt8), ([107, 105, 108, 108, 45, 98, 97, 99, 107] : List UInt8), ([107, 105, 108, 108, 45, 108, 105, 110, 101] : List UInt8), ([107, 105, 108, 108, 45, 114, 101, 103, 105, 111, 110] : List UInt8), ([107, 105, 108, 108, 45, 119, 111, 114, 100] : List UInt8), ([108, 97, 115, 116] : List UInt8), ([108, 101, 102, 116] : List UInt8), ([108, 105, 110, 101, 45, 101, 110, 100] : List UInt8), ([108, 105, 110, 101, 45, 115, 116, 97, 114, 116] : List UInt8), ([110, 101, 119, 108, 105, 110, 101] : List UInt8), ([114, 101, 100, 111] : List UInt8), ([114, 105, 103, 104, 116] : List UInt8), ([115, 101, 116, 45, 109, 97, 114, 107] : List UInt8), ([117, 110, 100, 111] : List UInt8), ([117, 112] : List UInt8), ([117, 112, 45, 104, 105, 115, 116, 111, 114, 121] : List UInt8), ([118, 105, 45, 99, 111, 109, 109, 97, 110, 100] : List UInt8), ([118, 105, 45, 105, 110, 115, 101, 114, 116] : List UInt8), ([119, 111, 114, 100, 45, 98, 97, 99, 107] : List UInt8), ([119, 111, 114, 100, 45, 110, 101, 120, 116] : List UInt8), ([121, 97, 110, 107] : List UInt8), ([121, 97, 110, 107, 45, 112, 111, 112] : List UInt8)] : List (List UInt8)).length))]) (obs := []) (by kernel_rfl) ?_ ?_
  · intro w hs; exact trivial
  refine at_end ?_
  refine at_thn ?_
  refine at_ret ?_
  obtain rfl := Option.some.inj H
  refine at_done (vs := [.slice (some ⟨g1, 0, none⟩ : Option Addr) ([([97, 99, 99, 101, 112, 116] : List UInt8), ([98, 101, 108, 108] : List UInt8), ([99, 111, 109, 112, 108, 101, 116, 101] : List UInt8), ([99, 111, 112, 121, 45, 114, 101, 103, 105, 111, 110] : List UInt8), ([100, 101, 108, 101, 116, 101] : List UInt8), ([100, 101, 108, 101, 116, 101, 45, 98, 97, 99, 107] : List UInt8), ([100, 111, 119, 110] : List UInt8), ([100, 111, 119, 110, 45, 104, 105, 115, 116, 111, 114, 121] : List UInt8), ([102, 105, 114, 115, 116] : List UInt8), ([107, 105, 108, 108, 45, 98, 97, 99, 107] : List UInt8), ([107, 105, 108, 108, 45, 108, 105, 110, 101] : List UInt8), ([107, 105, 108, 108, 45, 114, 101, 103, 105, 111, 110] : List UInt8), ([107, 105, 108, 108, 45, 119, 111, 114, 100] : List UInt8), ([108, 97, 115, 116] : List UInt8), ([108, 101, 102, 116] : List UInt8), ([108, 105, 110, 101, 45, 101, 110, 100] : List UInt8), ([108, 105, 110, 101, 45, 115, 116, 97, 114, 116] : List UInt8), ([110, 101, 119, 108, 105, 110, 101] : List UInt8), ([114, 101, 100, 111] : List UInt8), ([114, 105, 103, 104, 116] : List UInt8), ([115, 101, 116, 45, 109, 97, 114, 107] : List UInt8), ([117, 110, 100, 111] : List UInt8), ([117, 112] : List UInt8), ([117, 112, 45, 104, 105, 115, 116, 111, 114, 121] : List UInt8), ([118, 105, 45, 99, 111, 109, 109, 97, 110, 100] : List UInt8), ([118, 105, 45, 105, 110, 115, 101, 114, 116] : List UInt8), ([119, 111, 114, 100, 45, 98, 97, 99, 107] : List UInt8), ([119, 111, 114, 100, 45, 110, 101, 120, 116] : List UInt8), ([121, 97, 110, 107] : List UInt8), ([121, 97, 110, 107, 45, 112, 111, 112] : List UInt8)] : List (List UInt8)).length (([([97, 99, 99, 101, 112, 116] : List UInt8), ([98, 101, 108, 108] : List UInt8), ([99, 111, 109, 112, 108, 101, 116, 101] : List UInt8), ([99, 111, 112, 121, 45, 114, 101, 103, 105, 111, 110] : List UInt8), ([100, 101, 108, 101, 116, 101] : List UInt8), ([100, 101, 108, 101, 116, 101, 45, 98, 97, 99, 107] : List UInt8), ([100, 111, 119, 110] : List UInt8), ([100, 111, 119, 110, 45, 104, 105, 115, 116, 111, 114, 121] : List UInt8), ([102, 105, 114, 115, 116] : List UInt8), ([107, 105, 108, 108, 45, 98, 97, 99, 107] : List UInt8), ([107, 105, 108, 108, 45, 108, 105, 110, 101] : List UInt8), ([107, 105, 108, 108, 45, 114, 101, 103, 105, 111, 110] : List UInt8), ([107, 105, 108, 108, 45, 119, 111, 114, 100] : List UInt8), ([108, 97, 115, 116] : List UInt8), ([108, 101, 102, 116] : List UInt8), ([108, 105, 110, 101, 45, 101, 110, 100] : List UInt8), ([108, 105, 110, 101, 45, 115, 116, 97, 114, 116] : List UInt8), ([110, 101, 119, 108, 105, 110, 101] : List UInt8), ([114, 101, 100, 111] : List UInt8), ([114, 105, 103, 104, 116] : List UInt8), ([115, 101, 116, 45, 109, 97, 114, 107] : List UInt8), ([117, 110, 100, 111] : List UInt8), ([117, 112] : List UInt8), ([117, 112, 45, 104, 105, 115, 116, 111, 114, 121] : List UInt8), ([118, 105, 45, 99, 111, 109, 109, 97, 110, 100] : List UInt8), ([118, 105, 45, 105, 110, 115, 101, 114, 116] : List UInt8), ([119, 111, 114, 100, 45, 98, 97, 99, 107] : List UInt8), ([119, 111, 114, 100, 45, 110, 101, 120, 116] : List UInt8), ([121, 97, 110, 107] : List UInt8), ([121, 97, 110, 107, 45, 112, 111, 112] : List UInt8)] : List (List UInt8)).length)]) (obs := []) (.inl rfl) [.tmp 0] [] rfl (by kernel_rfl) (fun w hs => trivial) (fun w hs => ⟨_, _, [[(g1, .cells #[str ([97, 99, 99, 101, 112, 116] : List UInt8), str ([98, 101, 108, 108] : List UInt8), str ([99, 111, 109, 112, 108, 101, 116, 101] : List UInt8), str ([99, 111, 112, 121, 45, 114, 101, 103, 105, 111, 110] : List UInt8), str ([100, 101, 108, 101, 116, 101] : List UInt8), str ([100, 101, 108, 101, 116, 101, 45, 98, 97, 99, 107] : List UInt8), str ([100, 111, 119, 110] : List UInt8), str ([100, 111, 119, 110, 45, 104, 105, 115, 116, 111, 114, 121] : List UInt8), str ([102, 105, 114, 115, 116] : List UInt8), str ([107, 105, 108, 108, 45, 98, 97, 99, 107] : List UInt8), str ([107, 105, 108, 108, 45, 108, 105, 110, 101] : List UInt8), str ([107, 105, 108, 108, 45, 114, 101, 103, 105, 111, 110] : List UInt8), str ([107, 105, 108, 108, 45, 119, 111, 114, 100] : List UInt8), str ([108, 97, 115, 116] : List UInt8), str ([108, 101, 102, 116] : List UInt8), str ([108, 105, 110, 101, 45, 101, 110, 100] : List UInt8), str ([108, 105, 110, 101, 45, 115, 116, 97, 114, 116] : List UInt8), str ([110, 101, 119, 108, 105, 110, 101] : List UInt8), str ([114, 101, 100, 111] : List UInt8), str ([114, 105, 103, 104, 116] : List UInt8), str ([115, 101, 116, 45, 109, 97, 114, 107] : List UInt8), str ([117, 110, 100, 111] : List UInt8), str ([117, 112] : List UInt8), str ([117, 112, 45, 104, 105, 115, 116, 111, 114, 121] : List UInt8), str ([118, 105, 45, 99, 111, 109, 109, 97, 110, 100] : List UInt8), str ([118, 105, 45, 105, 110, 115, 101, 114, 116] : List UInt8), str ([119, 111, 114, 100, 45, 98, 97, 99, 107] : List UInt8), str ([119, 111, 114, 100, 45, 110, 101, 120, 116] : List UInt8), str ([121, 97, 110, 107] : List UInt8), str ([121, 97, 110, 107, 45, 112, 111, 112] : List UInt8)] 9 (0, 0))]], rfl, ⟨(some ⟨g1, 0, none⟩ : Option Addr), ([([97, 99, 99, 101, 112, 116] : List UInt8), ([98, 101, 108, 108] : List UInt8), ([99, 111, 109, 112, 108, 101, 116, 101] : List UInt8), ([99, 111, 112, 121, 45, 114, 101, 103, 105, 111, 110] : List UInt8), ([100, 101, 108, 101, 116, 101] : List UInt8), ([100, 101, 108, 101, 116, 101, 45, 98, 97, 99, 107] : List UInt8), ([100, 111, 119, 110] : List UInt8), ([100, 111, 119, 110, 45, 104, 105, 115, 116, 111, 114, 121] : List UInt8), ([102, 105, 114, 115, 116] : List UInt8), ([107, 105, 108, 108, 45, 98, 97, 99, 107] : List UInt8), ([107, 105, 108, 108, 45, 108, 105, 110, 101] : List UInt8), ([107, 105, 108, 108, 45, 114, 101, 103, 105, 111, 110] : List UInt8), ([107, 105, 108, 108, 45, 119, 111, 114, 100] : List UInt8), ([108, 97, 115, 116] : List UInt8), ([108, 101, 102, 116] : List UInt8), ([108, 105, 110, 101, 45, 101, 110, 100] : List UInt8), ([108, 105, 110, 101, 45, 115, 116, 97, 114, 116] : List UInt8), ([110, 101, 119, 108, 105, 110, 101] : List UInt8), ([114, 101, 100, 111] : List UInt8), ([114, 105, 103, 104, 116] : List UInt8), ([115, 101, 116, 45, 109, 97, 114, 107] : List UInt8), ([117, 110, 100, 111] : List UInt8), ([117, 112] : List UInt8), ([117, 112, 45, 104, 105, 115, 116, 111, 114, 121] : List UInt8), ([118, 105, 45, 99, 111, 109, 109, 97, 110, 100] : List UInt8), ([118, 105, 45, 105, 110, 115, 101, 114, 116] : List UInt8), ([119, 111, 114, 100, 45, 98, 97, 99, 107] : List UInt8), ([119, 111, 114, 100, 45, 110, 101, 120, 116] : List UInt8), ([121, 97, 110, 107] : List UInt8), ([121, 97, 110, 107, 45, 112, 111, 112] : List UInt8)] : List (List UInt8)).length, [(g1, .cells #[str ([97, 99, 99, 101, 112, 116] : List UInt8), str ([98, 101, 108, 108] : List UInt8), str ([99, 111, 109, 112, 108, 101, 116, 101] : List UInt8), str ([99, 111, 112, 121, 45, 114, 101, 103, 105, 111, 110] : List UInt8), str ([100, 101, 108, 101, 116, 101] : List UInt8), str ([100, 101, 108, 101, 116, 101, 45, 98, 97, 99, 107] : List UInt8), str ([100, 111, 119, 110] : List UInt8), str ([100, 111, 119, 110, 45, 104, 105, 115, 116, 111, 114, 121] : List UInt8), str ([102, 105, 114, 115, 116] : List UInt8), str ([107, 105, 108, 108, 45, 98, 97, 99, 107] : List UInt8), str ([107, 105, 108, 108, 45, 108, 105, 110, 101] : List UInt8), str ([107, 105, 108, 108, 45, 114, 101, 103, 105, 111, 110] : List UInt8), str ([107, 105, 108, 108, 45, 119, 111, 114, 100] : List UInt8), str ([108, 97, 115, 116] : List UInt8), str ([108, 101, 102, 116] : List UInt8), str ([108, 105, 110, 101, 45, 101, 110, 100] : List UInt8), str ([108, 105, 110, 101, 45, 115, 116, 97, 114, 116] : List UInt8), str ([110, 101, 119, 108, 105, 110, 101] : List UInt8), str ([114, 101, 100, 111] : List UInt8), str ([114, 105, 103, 104, 116] : List UInt8), str ([115, 101, 116, 45, 109, 97, 114, 107] : List UInt8), str ([117, 110, 100, 111] : List UInt8), str ([117, 112] : List UInt8), str ([117, 112, 45, 104, 105, 115, 116, 111, 114, 121] : List UInt8), str ([118, 105, 45, 99, 111, 109, 109, 97, 110, 100] : List UInt8), str ([118, 105, 45, 105, 110, 115, 101, 114, 116] : List UInt8), str ([119, 111, 114, 100, 45, 98, 97, 99, 107] : List UInt8), str ([119, 111, 114, 100, 45, 110, 101, 120, 116] : List UInt8), str ([121, 97, 110, 107] : List UInt8), str ([121, 97, 110, 107, 45, 112, 111, 112] : List UInt8)] 9 (0, 0))], rfl, rfl, ho2⟩, hle, hs⟩)

/-! ### loop.example/g00146/impl.moves: function 12 -/
def impl_moves : Option (List (List UInt8)) := some ([([108, 101, 102, 116] : List UInt8), ([114, 105, 103, 104, 116] : List UInt8), ([119, 111, 114, 100, 45, 98, 97, 99, 107] : List UInt8), ([119, 111, 114, 100, 45, 110, 101, 120, 116] : List UInt8), ([108, 105, 110, 101, 45, 115, 116, 97, 114, 116] : List UInt8), ([108, 105, 110, 101, 45, 101, 110, 100] : List UInt8), ([117, 112] : List UInt8), ([100, 111, 119, 110] : List UInt8), ([102, 105, 114, 115, 116] : List UInt8), ([108, 97, 115, 116] : List UInt8)] : List (List UInt8))
set_option maxHeartbeats 4000000 in
set_option maxRecDepth 100000 in
theorem impl_moves.calls {r : (List (List UInt8))} {I0 : Imm} (H : impl_moves = some r) :
    Meets Try.prog 12 ([] : List Value).toArray I0 [] (fun v J M => ∃ (A_1 : Option Addr) (c_2 : Nat) (s_3 : Seg), v = .slice A_1 r.length c_2 ∧ M = [s_3] ∧ Own Kd.string 9 J A_1 c_2 r s_3) := by
  have hle := ImmLe.refl I0
  unfold impl_moves at H
  refine fn_intro (fn := Try.f12) 2 Try.func12 rfl rfl rfl (fun E Fs => ?_)
  refine at_seq ?_
  refine at_reg [] [] (L2 := []) (obs := []) (by kernel_rfl) ?_ ?_
  · intro w hs; exact trivial
  refine at_thn ?_
  refine at_seq ?_
  refine at_ops [0, 1] rfl ?_
  refine at_eff rfl rfl ?_
  refine eff_buildSlice (e := 9) (cells := #[str ([108, 101, 102, 116] : List UInt8), str ([114, 105, 103, 104, 116] : List UInt8), str ([119, 111, 114, 100, 45, 98, 97, 99, 107] : List UInt8), str ([119, 111, 114, 100, 45, 110, 101, 120, 116] : List UInt8), str ([108, 105, 110, 101, 45, 115, 116, 97, 114, 116] : List UInt8), str ([108, 105, 110, 101, 45, 101, 110, 100] : List UInt8), str ([117, 112] : List UInt8), str ([100, 111, 119, 110] : List UInt8), str ([102, 105, 114, 115, 116] : List UInt8), str ([108, 97, 115, 116] : List UInt8)]) ([([108, 101, 102, 116] : List UInt8), ([114, 105, 103, 104, 116] : List UInt8), ([119, 111, 114, 100, 45, 98, 97, 99, 107] : List UInt8), ([119, 111, 114, 100, 45, 110, 101, 120, 116] : List UInt8), ([108, 105, 110, 101, 45, 115, 116, 97, 114, 116] : List UInt8), ([108, 105, 110, 101, 45, 101, 110, 100] : List UInt8), ([117, 112] : List UInt8), ([100, 111, 119, 110] : List UInt8), ([102, 105, 114, 115, 116] : List UInt8), ([108, 97, 115, 116] : List UInt8)] : List (List UInt8)).length rfl rfl rfl (by kernel_rfl) (fun g11 => ?_)
  have ho12 := own_lit (K := Kd.string) (e := 9) (I := I0) (xs := ([([108, 101, 102, 116] : List UInt8), ([114, 105, 103, 104, 116] : List UInt8), ([119, 111, 114, 100, 45, 98, 97, 99, 107] : List UInt8), ([119, 111, 114, 100, 45, 110, 101, 120, 116] : List UInt8), ([108, 105, 110, 101, 45, 115, 116, 97, 114, 116] : List UInt8), ([108, 105, 110, 101, 45, 101, 110, 100] : List UInt8), ([117, 112] : List UInt8), ([100, 111, 119, 110] : List UInt8), ([102, 105, 114, 115, 116] : List UInt8), ([108, 97, 115, 116] : List UInt8)] : List (List UInt8))) (css := [[str ([108, 101, 102, 116] : List UInt8)], [str ([114, 105, 103, 104, 116] : List UInt8)], [str ([119, 111, 114, 100, 45, 98, 97, 99, 107] : List UInt8)], [str ([119, 111, 114, 100, 45, 110, 101, 120, 116] : List UInt8)], [str ([108, 105, 110, 101, 45, 115, 116, 97, 114, 116] : List UInt8)], [str ([108, 105, 110, 101, 45, 101, 110, 100] : List UInt8)], [str ([117, 112] : List UInt8)], [str ([100, 111, 119, 110] : List UInt8)], [str ([102, 105, 114, 115, 116] : List UInt8)], [str ([108, 97, 115, 116] : List UInt8)]]) (cells := #[str ([108, 101, 102, 116] : List UInt8), str ([114, 105, 103, 104, 116] : List UInt8), str ([119, 111, 114, 100, 45, 98, 97, 99, 107] : List UInt8), str ([119, 111, 114, 100, 45, 110, 101, 120, 116] : List UInt8), str ([108, 105, 110, 101, 45, 115, 116, 97, 114, 116] : List UInt8), str ([108, 105, 110, 101, 45, 101, 110, 100] : List UInt8), str ([117, 112] : List UInt8), str ([100, 111, 119, 110] : List UInt8), str ([102, 105, 114, 115, 116] : List UInt8), str ([108, 97, 115, 116] : List UInt8)]) (b := g11) ⟨rfl, ⟨rfl, ⟨rfl, ⟨rfl, ⟨rfl, ⟨rfl, ⟨rfl, ⟨rfl, ⟨rfl, ⟨rfl, trivial⟩⟩⟩⟩⟩⟩⟩⟩⟩⟩ rfl
  refine at_seg [1] [] rfl [] [0] (L2 := [(0, .slice (some ⟨g11, 0, none⟩ : Option Addr) ([([108, 101, 102, 116] : List UInt8), ([114, 105, 103, 104, 116] : List UInt8), ([119, 111, 114, 100, 45, 98, 97, 99, 107] : List UInt8), ([119, 111, 114, 100, 45, 110, 101, 120, 116] : List UInt8), ([108, 105, 110, 101, 45, 115, 116, 97, 114, 116] : List UInt8), ([108, 105, 110, 101, 45, 101, 110, 100] : List UInt8), ([117, 112] : List UInt8), ([100, 111, 119, 110] : List UInt8), ([102, 105, 114, 115, 116] : List UInt8), ([108, 97, 115, 116] : List UInt8)] : List (List UInt8)).length (([([108, 101, 102, 116] : List UInt8), ([114, 105, 103, 104, 116] : List UInt8), ([119, 111, 114, 100, 45, 98, 97, 99, 107] : List UInt8), ([119, 111, 114, 100, 45, 110, 101, 120, 116] : List UInt8), ([108, 105, 110, 101, 45, 115, 116, 97, 114, 116] : List UInt8), ([108, 105, 110, 101, 45, 101, 110, 100] : List UInt8), ([117, 112] : List UInt8), ([100, 111, 119, 110] : List UInt8), ([102, 105, 114, 115, 116] : List UInt8), ([108, 97, 115, 116] : List UInt8)] : List (List UInt8)).length))]) (obs := []) (by kernel_rfl) ?_ ?_
  · intro w hs; exact trivial
  refine at_end ?_
  refine at_thn ?_
  refine at_ret ?_
  obtain rfl := Option.some.inj H
  refine at_done (vs := [.slice (some ⟨g11, 0, none⟩ : Option Addr) ([([108, 101, 102, 116] : List UInt8), ([114, 105, 103, 104, 116] : List UInt8), ([119, 111, 114, 100, 45, 98, 97, 99, 107] : List UInt8), ([119, 111, 114, 100, 45, 110, 101, 120, 116] : List UInt8), ([108, 105, 110, 101, 45, 115, 116, 97, 114, 116] : List UInt8), ([108, 105, 110, 101, 45, 101, 110, 100] : List UInt8), ([117, 112] : List UInt8), ([100, 111, 119, 110] : List UInt8), ([102, 105, 114, 115, 116] : List UInt8), ([108, 97, 115, 116] : List UInt8)] : List (List UInt8)).length (([([108, 101, 102, 116] : List UInt8), ([114, 105, 103, 104, 116] : List UInt8), ([119, 111, 114, 100, 45, 98, 97, 99, 107] : List UInt8), ([119, 111, 114, 100, 45, 110, 101, 120, 116] : List UInt8), ([108, 105, 110, 101, 45, 115, 116, 97, 114, 116] : List UInt8), ([108, 105, 110, 101, 45, 101, 110, 100] : List UInt8), ([117, 112] : List UInt8), ([100, 111, 119, 110] : List UInt8), ([102, 105, 114, 115, 116] : List UInt8), ([108, 97, 115, 116] : List UInt8)] : List (List UInt8)).length)]) (obs := []) (.inl rfl) [.tmp 0] [] rfl (by kernel_rfl) (fun w hs => trivial) (fun w hs => ⟨_, _, [[(g11, .cells #[str ([108, 101, 102, 116] : List UInt8), str ([114, 105, 103, 104, 116] : List UInt8), str ([119, 111, 114, 100, 45, 98, 97, 99, 107] : List UInt8), str ([119, 111, 114, 100, 45, 110, 101, 120, 116] : List UInt8), str ([108, 105, 110, 101, 45, 115, 116, 97, 114, 116] : List UInt8), str ([108, 105, 110, 101, 45, 101, 110, 100] : List UInt8), str ([117, 112] : List UInt8), str ([100, 111, 119, 110] : List UInt8), str ([102, 105, 114, 115, 116] : List UInt8), str ([108, 97, 115, 116] : List UInt8)] 9 (0, 0))]], rfl, ⟨(some ⟨g11, 0, none⟩ : Option Addr), ([([108, 101, 102, 116] : List UInt8), ([114, 105, 103, 104, 116] : List UInt8), ([119, 111, 114, 100, 45, 98, 97, 99, 107] : List UInt8), ([119, 111, 114, 100, 45, 110, 101, 120, 116] : List UInt8), ([108, 105, 110, 101, 45, 115, 116, 97, 114, 116] : List UInt8), ([108, 105, 110, 101, 45, 101, 110, 100] : List UInt8), ([117, 112] : List UInt8), ([100, 111, 119, 110] : List UInt8), ([102, 105, 114, 115, 116] : List UInt8), ([108, 97, 115, 116] : List UInt8)] : List (List UInt8)).length, [(g11, .cells #[str ([108, 101, 102, 116] : List UInt8), str ([114, 105, 103, 104, 116] : List UInt8), str ([119, 111, 114, 100, 45, 98, 97, 99, 107] : List UInt8), str ([119, 111, 114, 100, 45, 110, 101, 120, 116] : List UInt8), str ([108, 105, 110, 101, 45, 115, 116, 97, 114, 116] : List UInt8), str ([108, 105, 110, 101, 45, 101, 110, 100] : List UInt8), str ([117, 112] : List UInt8), str ([100, 111, 119, 110] : List UInt8), str ([102, 105, 114, 115, 116] : List UInt8), str ([108, 97, 115, 116] : List UInt8)] 9 (0, 0))], rfl, rfl, ho12⟩, hle, hs⟩)

/-! ### math/bits.Len64: function 28 -/
def bits_Len64_j0 : Nat → Int → Int → Option Int
  | 0, _, _ => none
  | k + 1, x135, x136 => if x135 ≥ 65536 then (if (x135.fdiv (2 ^ 16)) ≥ 256 then (if 0 ≤ (IntKind.u8.wrap ((x135.fdiv (2 ^ 16)).fdiv (2 ^ 8))) then (if (IntKind.u8.wrap ((x135.fdiv (2 ^ 16)).fdiv (2 ^ 8))) < (lit0.length : Int) then (some (IntKind.i64.wrap ((IntKind.i64.wrap ((IntKind.i64.wrap (x136 + 16)) + 8)) + (IntKind.i64.wrap (bt lit0 (IntKind.u8.wrap ((x135.fdiv (2 ^ 16)).fdiv (2 ^ 8)))))))) else none) else none) else (if 0 ≤ (IntKind.u8.wrap (x135.fdiv (2 ^ 16))) then (if (IntKind.u8.wrap (x135.fdiv (2 ^ 16))) < (lit0.length : Int) then (some (IntKind.i64.wrap ((IntKind.i64.wrap (x136 + 16)) + (IntKind.i64.wrap (bt lit0 (IntKind.u8.wrap (x135.fdiv (2 ^ 16)))))))) else none) else none)) else (if x135 ≥ 256 then (if 0 ≤ (IntKind.u8.wrap (x135.fdiv (2 ^ 8))) then (if (IntKind.u8.wrap (x135.fdiv (2 ^ 8))) < (lit0.length : Int) then (some (IntKind.i64.wrap ((IntKind.i64.wrap (x136 + 8)) + (IntKind.i64.wrap (bt lit0 (IntKind.u8.wrap (x135.fdiv (2 ^ 8)))))))) else none) else none) else (if 0 ≤ (IntKind.u8.wrap x135) then (if (IntKind.u8.wrap x135) < (lit0.length : Int) then (some (IntKind.i64.wrap (x136 + (IntKind.i64.wrap (bt lit0 (IntKind.u8.wrap x135)))))) else none) else none))
def bits_Len64 (k : Nat) (p33 : Int) : Option Int := if p33 ≥ 4294967296 then (bits_Len64_j0 k (p33.fdiv (2 ^ 32)) 32) else (bits_Len64_j0 k p33 0)
set_option maxHeartbeats 4000000 in
set_option maxRecDepth 100000 in
theorem bits_Len64.calls {k : Nat} {p33 : Int} {r : Int} {I0 : Imm} (H : bits_Len64 k p33 = some r) :
    Meets Try.prog 28 ([.int .u64 p33] : List Value).toArray I0 [] (fun v J M => v = .int .i64 r ∧ M = []) := by
  have hle := ImmLe.refl I0
  unfold bits_Len64 at H
  refine fn_intro (fn := Try.f28) 25 Try.func28 rfl rfl rfl (fun E Fs => ?_)
  refine at_seq ?_
  refine at_reg [] [0, 2] (L2 := [(0, .int .u64 p33), (2, .int .i64 0)]) (obs := []) (by kernel_rfl) ?_ ?_
  · intro w hs; exact trivial
  refine at_thn ?_
  refine at_join (fun L I Ms => ∃ (k137 : Nat), ∃ (x135 : Int) (x136 : Int), L = [(0, .int .u64 x135), (2, .int .i64 x136)] ∧ Ms = ([] ++ Fs) ∧ bits_Len64_j0 k137 x135 x136 = some r ∧ ImmLe I0 I ∧ k137 ≤ k) ?_ ?_
  · clear H hle
    intro L I Ms h_; obtain ⟨k137, x135, x136, hL_, hM_, H, hle, hk138⟩ := h_; rw [hL_, hM_]; clear hL_ hM_ L Ms
    rcases k137 with _ | k137
    · exact (no_none H).elim
    rw [bits_Len64_j0] at H
    refine at_seq ?_
    refine at_seq ?_
    refine at_reg [] [0, 2, 8] (L2 := [(0, .int .u64 x135), (2, .int .i64 x136), (8, .bool (decide (x135 ≥ 65536)))]) (obs := []) (by kernel_rfl) ?_ ?_
    · intro w hs; exact trivial
    refine at_thn ?_
    by_cases h139 : x135 ≥ 65536
    · rw [if_pos h139] at H
      refine at_cond_t rfl (decide_eq_true h139) ?_
      refine at_seq ?_
      refine at_reg [] [0, 2] (L2 := [(0, .int .u64 (x135.fdiv (2 ^ 16))), (2, .int .i64 x136)]) (obs := [fun _ => 0 ≤ (16 : Int)]) (by kernel_rfl) ?_ ?_
      · intro w hs; exact (by decide : (0 : Int) ≤ 16)
      refine at_thn ?_
      refine at_reg [] [0, 2] (L2 := [(0, .int .u64 (x135.fdiv (2 ^ 16))), (2, .int .i64 (IntKind.i64.wrap (x136 + 16)))]) (obs := []) (by kernel_rfl) ?_ ?_
      · intro w hs; exact trivial
      refine at_thn ?_
      refine at_seq ?_
      refine at_seq ?_
      refine at_reg [] [0, 2, 14] (L2 := [(0, .int .u64 (x135.fdiv (2 ^ 16))), (2, .int .i64 (IntKind.i64.wrap (x136 + 16))), (14, .bool (decide ((x135.fdiv (2 ^ 16)) ≥ 256)))]) (obs := []) (by kernel_rfl) ?_ ?_
      · intro w hs; exact trivial
      refine at_thn ?_
      by_cases h140 : (x135.fdiv (2 ^ 16)) ≥ 256
      · rw [if_pos h140] at H
        refine at_cond_t rfl (decide_eq_true h140) ?_
        refine at_seq ?_
        refine at_reg [] [0, 2] (L2 := [(0, .int .u64 ((x135.fdiv (2 ^ 16)).fdiv (2 ^ 8))), (2, .int .i64 (IntKind.i64.wrap (x136 + 16)))]) (obs := [fun _ => 0 ≤ (8 : Int)]) (by kernel_rfl) ?_ ?_
        · intro w hs; exact (by decide : (0 : Int) ≤ 8)
        refine at_thn ?_
        refine at_reg [] [0, 2] (L2 := [(0, .int .u64 ((x135.fdiv (2 ^ 16)).fdiv (2 ^ 8))), (2, .int .i64 (IntKind.i64.wrap ((IntKind.i64.wrap (x136 + 16)) + 8)))]) (obs := []) (by kernel_rfl) ?_ ?_
        · intro w hs; exact trivial
        refine at_thn ?_
        refine at_seq ?_
        obtain ⟨h141, H⟩ := ite_some H
        obtain ⟨h142, H⟩ := ite_some H
        refine at_reg [] [2] (L2 := [(2, .int .i64 (IntKind.i64.wrap ((IntKind.i64.wrap ((IntKind.i64.wrap (x136 + 16)) + 8)) + (IntKind.i64.wrap (bt lit0 (IntKind.u8.wrap ((x135.fdiv (2 ^ 16)).fdiv (2 ^ 8))))))))]) (obs := [fun _ => 0 ≤ (IntKind.u8.wrap ((x135.fdiv (2 ^ 16)).fdiv (2 ^ 8))) ∧ (IntKind.u8.wrap ((x135.fdiv (2 ^ 16)).fdiv (2 ^ 8))) < ((lit0.length : Nat) : Int)]) (by kernel_rfl) ?_ ?_
        · intro w hs; exact ⟨h141, h142⟩
        refine at_thn ?_
        refine at_ret ?_
        obtain rfl := Option.some.inj H
        refine at_done (vs := [.int .i64 (IntKind.i64.wrap ((IntKind.i64.wrap ((IntKind.i64.wrap (x136 + 16)) + 8)) + (IntKind.i64.wrap (bt lit0 (IntKind.u8.wrap ((x135.fdiv (2 ^ 16)).fdiv (2 ^ 8)))))))]) (obs := []) (.inl rfl) [.tmp 2] [] rfl (by kernel_rfl) (fun w hs => trivial) (fun w hs => ⟨_, _, [], rfl, ⟨rfl, rfl⟩, hle, hs⟩)
      · rw [if_neg h140] at H
        refine at_cond_f rfl (decide_eq_false h140) ?_
        refine at_skip ?_
        refine at_thn ?_
        refine at_seq ?_
        obtain ⟨h143, H⟩ := ite_some H
        obtain ⟨h144, H⟩ := ite_some H
        refine at_reg [] [2] (L2 := [(2, .int .i64 (IntKind.i64.wrap ((IntKind.i64.wrap (x136 + 16)) + (IntKind.i64.wrap (bt lit0 (IntKind.u8.wrap (x135.fdiv (2 ^ 16))))))))]) (obs := [fun _ => 0 ≤ (IntKind.u8.wrap (x135.fdiv (2 ^ 16))) ∧ (IntKind.u8.wrap (x135.fdiv (2 ^ 16))) < ((lit0.length : Nat) : Int)]) (by kernel_rfl) ?_ ?_
        · intro w hs; exact ⟨h143, h144⟩
        refine at_thn ?_
        refine at_ret ?_
        obtain rfl := Option.some.inj H
        refine at_done (vs := [.int .i64 (IntKind.i64.wrap ((IntKind.i64.wrap (x136 + 16)) + (IntKind.i64.wrap (bt lit0 (IntKind.u8.wrap (x135.fdiv (2 ^ 16)))))))]) (obs := []) (.inl rfl) [.tmp 2] [] rfl (by kernel_rfl) (fun w hs => trivial) (fun w hs => ⟨_, _, [], rfl, ⟨rfl, rfl⟩, hle, hs⟩)
    · rw [if_neg h139] at H
      refine at_cond_f rfl (decide_eq_false h139) ?_
      refine at_skip ?_
      refine at_thn ?_
      refine at_seq ?_
      refine at_seq ?_
      refine at_reg [] [0, 2, 14] (L2 := [(0, .int .u64 x135), (2, .int .i64 x136), (14, .bool (decide (x135 ≥ 256)))]) (obs := []) (by kernel_rfl) ?_ ?_
      · intro w hs; exact trivial
      refine at_thn ?_
      by_cases h145 : x135 ≥ 256
      · rw [if_pos h145] at H
        refine at_cond_t rfl (decide_eq_true h145) ?_
        refine at_seq ?_
        refine at_reg [] [0, 2] (L2 := [(0, .int .u64 (x135.fdiv (2 ^ 8))), (2, .int .i64 x136)]) (obs := [fun _ => 0 ≤ (8 : Int)]) (by kernel_rfl) ?_ ?_
        · intro w hs; exact (by decide : (0 : Int) ≤ 8)
        refine at_thn ?_
        refine at_reg [] [0, 2] (L2 := [(0, .int .u64 (x135.fdiv (2 ^ 8))), (2, .int .i64 (IntKind.i64.wrap (x136 + 8)))]) (obs := []) (by kernel_rfl) ?_ ?_
        · intro w hs; exact trivial
        refine at_thn ?_
        refine at_seq ?_
        obtain ⟨h146, H⟩ := ite_some H
        obtain ⟨h147, H⟩ := ite_some H
        refine at_reg [] [2] (L2 := [(2, .int .i64 (IntKind.i64.wrap ((IntKind.i64.wrap (x136 + 8)) + (IntKind.i64.wrap (bt lit0 (IntKind.u8.wrap (x135.fdiv (2 ^ 8))))))))]) (obs := [fun _ => 0 ≤ (IntKind.u8.wrap (x135.fdiv (2 ^ 8))) ∧ (IntKind.u8.wrap (x135.fdiv (2 ^ 8))) < ((lit0.length : Nat) : Int)]) (by kernel_rfl) ?_ ?_
        · intro w hs; exact ⟨h146, h147⟩
        refine at_thn ?_
        refine at_ret ?_
        obtain rfl := Option.some.inj H
        refine at_done (vs := [.int .i64 (IntKind.i64.wrap ((IntKind.i64.wrap (x136 + 8)) + (IntKind.i64.wrap (bt lit0 (IntKind.u8.wrap (x135.fdiv (2 ^ 8)))))))]) (obs := []) (.inl rfl) [.tmp 2] [] rfl (by kernel_rfl) (fun w hs => trivial) (fun w hs => ⟨_, _, [], rfl, ⟨rfl, rfl⟩, hle, hs⟩)
      · rw [if_neg h145] at H
        refine at_cond_f rfl (decide_eq_false h145) ?_
        refine at_skip ?_
        refine at_thn ?_
        refine at_seq ?_
        obtain ⟨h148, H⟩ := ite_some H
        obtain ⟨h149, H⟩ := ite_some H
        refine at_reg [] [2] (L2 := [(2, .int .i64 (IntKind.i64.wrap (x136 + (IntKind.i64.wrap (bt lit0 (IntKind.u8.wrap x135))))))]) (obs := [fun _ => 0 ≤ (IntKind.u8.wrap x135) ∧ (IntKind.u8.wrap x135) < ((lit0.length : Nat) : Int)]) (by kernel_rfl) ?_ ?_
        · intro w hs; exact ⟨h148, h149⟩
        refine at_thn ?_
        refine at_ret ?_
        obtain rfl := Option.some.inj H
        refine at_done (vs := [.int .i64 (IntKind.i64.wrap (x136 + (IntKind.i64.wrap (bt lit0 (IntKind.u8.wrap x135)))))]) (obs := []) (.inl rfl) [.tmp 2] [] rfl (by kernel_rfl) (fun w hs => trivial) (fun w hs => ⟨_, _, [], rfl, ⟨rfl, rfl⟩, hle, hs⟩)
  · intro Jn34
    refine at_seq ?_
    refine at_reg [] [0, 2, 4] (L2 := [(0, .int .u64 p33), (2, .int .i64 0), (4, .bool (decide (p33 ≥ 4294967296)))]) (obs := []) (by kernel_rfl) ?_ ?_
    · intro w hs; exact trivial
    refine at_thn ?_
    by_cases h150 : p33 ≥ 4294967296
    · rw [if_pos h150] at H
      refine at_cond_t rfl (decide_eq_true h150) ?_
      refine at_seq ?_
      refine at_reg [] [0] (L2 := [(0, .int .u64 (p33.fdiv (2 ^ 32)))]) (obs := [fun _ => 0 ≤ (32 : Int)]) (by kernel_rfl) ?_ ?_
      · intro w hs; exact (by decide : (0 : Int) ≤ 32)
      refine at_thn ?_
      refine at_reg [] [0, 2] (L2 := [(0, .int .u64 (p33.fdiv (2 ^ 32))), (2, .int .i64 32)]) (obs := []) (by kernel_rfl) ?_ ?_
      · intro w hs; exact trivial
      refine at_thn ?_
      refine at_keep [0, 2] (L2 := [(0, .int .u64 (p33.fdiv (2 ^ 32))), (2, .int .i64 32)]) rfl ?_
      exact Jn34 _ _ _ ⟨_, p33.fdiv (2 ^ 32), 32, rfl, rfl, H, hle, by omega⟩
    · rw [if_neg h150] at H
      refine at_cond_f rfl (decide_eq_false h150) ?_
      refine at_skip ?_
      refine at_thn ?_
      refine at_keep [0, 2] (L2 := [(0, .int .u64 p33), (2, .int .i64 0)]) rfl ?_
      exact Jn34 _ _ _ ⟨_, p33, 0, rfl, rfl, H, hle, by omega⟩

/-! ### math/bits.Len: function 17 -/
def bits_Len (k : Nat) (p32 : Int) : Option Int := (bits_Len64 k p32).bind fun b3 => (some b3)
set_option maxHeartbeats 4000000 in
set_option maxRecDepth 100000 in
theorem bits_Len.calls {k : Nat} {p32 : Int} {r : Int} {I0 : Imm} (H : bits_Len k p32 = some r) :
    Meets Try.prog 17 ([.int .u64 p32] : List Value).toArray I0 [] (fun v J M => v = .int .i64 r ∧ M = []) := by
  have hle := ImmLe.refl I0
  unfold bits_Len at H
  refine fn_intro (fn := Try.f17) 8 Try.func17 rfl rfl rfl (fun E Fs => ?_)
  refine at_seq ?_
  refine at_reg [] [0] (L2 := [(0, .int .u64 p32)]) (obs := []) (by kernel_rfl) ?_ ?_
  · intro w hs; exact trivial
  refine at_thn ?_
  refine at_seq ?_
  refine at_cond_f rfl (rfl) ?_
  refine at_skip ?_
  refine at_thn ?_
  refine at_seq ?_
  refine at_ops [0, 1, 2] rfl ?_
  refine at_seg [0] [1, 2] rfl [] [6] (L2 := [(6, .int .u64 p32)]) (obs := []) (by kernel_rfl) ?_ ?_
  · intro w hs; exact trivial
  refine at_eff rfl rfl ?_
  obtain ⟨b3, H33, H⟩ := bind_some H
  have hm_ := bits_Len64.calls (I0 := I0) H33
  refine eff_call rfl rfl ok28 rfl rfl (show Meets Try.prog 28 ([.int .u64 p32] : List Value).toArray _ [] _ from hm_) (Mr := (Fs)) (List.Perm.refl _) (fun v34 J35 M36 hq37 hJ38 => ?_)
  replace hle := hle.trans hJ38
  obtain ⟨rfl, rfl⟩ := hq37
  refine at_seg [2] [] rfl [] [2] (L2 := [(2, .int .i64 b3)]) (obs := []) (by kernel_rfl) ?_ ?_
  · intro w hs; exact trivial
  refine at_end ?_
  refine at_thn ?_
  refine at_ret ?_
  obtain rfl := Option.some.inj H
  refine at_done (vs := [.int .i64 b3]) (obs := []) (.inl rfl) [.tmp 2] [] rfl (by kernel_rfl) (fun w hs => trivial) (fun w hs => ⟨_, _, [], rfl, ⟨rfl, rfl⟩, hle, hs⟩)

/-! ### cmp.isNaN[string]: function 34 -/
def cmp_isNaN_string (p60 : List UInt8) : Option Bool := some (!(p60 == p60))
set_option maxHeartbeats 4000000 in
set_option maxRecDepth 100000 in
theorem cmp_isNaN_string.calls {p60 : List UInt8} {r : Bool} {I0 : Imm} (H : cmp_isNaN_string p60 = some r) :
    Meets Try.prog 34 ([str p60] : List Value).toArray I0 [] (fun v J M => v = .bool r ∧ M = []) := by
  have hle := ImmLe.refl I0
  unfold cmp_isNaN_string at H
  refine fn_intro (fn := Try.f34) 6 Try.func34 rfl rfl rfl (fun E Fs => ?_)
  refine at_seq ?_
  refine at_reg [] [0] (L2 := [(0, str p60)]) (obs := []) (by kernel_rfl) ?_ ?_
  · intro w hs; exact trivial
  refine at_thn ?_
  refine at_seq ?_
  refine at_reg [] [2] (L2 := [(2, .bool (!(p60 == p60)))]) (obs := []) (by kernel_rfl) ?_ ?_
  · intro w hs; exact trivial
  refine at_thn ?_
  refine at_ret ?_
  obtain rfl := Option.some.inj H
  refine at_done (vs := [.bool (!(p60 == p60))]) (obs := []) (.inl rfl) [.tmp 2] [] rfl (by kernel_rfl) (fun w hs => trivial) (fun w hs => ⟨_, _, [], rfl, ⟨rfl, rfl⟩, hle, hs⟩)

/-! ### cmp.Less[string]: function 24 -/
def cmp_Less_string (p58 : List UInt8) (p59 : List UInt8) : Option Bool := (cmp_isNaN_string p58).bind fun b4 => (if b4 = true then ((cmp_isNaN_string p59).bind fun b5 => (if b5 = true then (some (Op.bytesLess p58 p59)) else (some true))) else (some (Op.bytesLess p58 p59)))
set_option maxHeartbeats 4000000 in
set_option maxRecDepth 100000 in
theorem cmp_Less_string.calls {p58 : List UInt8} {p59 : List UInt8} {r : Bool} {I0 : Imm} (H : cmp_Less_string p58 p59 = some r) :
    Meets Try.prog 24 ([str p58, str p59] : List Value).toArray I0 [] (fun v J M => v = .bool r ∧ M = []) := by
  have hle := ImmLe.refl I0
  unfold cmp_Less_string at H
  refine fn_intro (fn := Try.f24) 17 Try.func24 rfl rfl rfl (fun E Fs => ?_)
  refine at_seq ?_
  refine at_reg [] [0, 1] (L2 := [(0, str p58), (1, str p59)]) (obs := []) (by kernel_rfl) ?_ ?_
  · intro w hs; exact trivial
  refine at_thn ?_
  refine at_seq ?_
  refine at_ops [0, 1, 2, 3, 4, 5, 6, 7, 8, 9, 10, 11, 12] rfl ?_
  refine at_seg [0] [1, 2, 3, 4, 5, 6, 7, 8, 9, 10, 11, 12] rfl [] [0, 1, 5] (L2 := [(0, str p58), (1, str p59), (5, str p58)]) (obs := []) (by kernel_rfl) ?_ ?_
  · intro w hs; exact trivial
  refine at_eff rfl rfl ?_
  obtain ⟨b4, H60, H⟩ := bind_some H
  have hm_ := cmp_isNaN_string.calls (I0 := I0) H60
  refine eff_call rfl rfl ok34 rfl rfl (show Meets Try.prog 34 ([str p58] : List Value).toArray _ [] _ from hm_) (Mr := (Fs)) (List.Perm.refl _) (fun v61 J62 M63 hq64 hJ65 => ?_)
  replace hle := hle.trans hJ65
  obtain ⟨rfl, rfl⟩ := hq64
  by_cases h66 : b4 = true
  · rw [if_pos h66] at H
    refine at_seg [2, 3] [4, 5, 6, 7, 8, 9, 10, 11, 12] rfl [(2, .bool true)] [0, 1, 7, 8] (L2 := [(0, str p58), (1, str p59), (7, .bool true), (8, str p59)]) (obs := [fun _ => (.bool b4 : Value) = .bool true]) (by kernel_rfl) ?_ ?_
    · intro w hs; exact congrArg Value.bool (h66)
    refine at_eff rfl rfl ?_
    obtain ⟨b5, H67, H⟩ := bind_some H
    have hm_ := cmp_isNaN_string.calls (I0 := J62) H67
    refine eff_call rfl rfl ok34 rfl rfl (show Meets Try.prog 34 ([str p59] : List Value).toArray _ [] _ from hm_) (Mr := (Fs)) (List.Perm.refl _) (fun v68 J69 M70 hq71 hJ72 => ?_)
    replace hle := hle.trans hJ72
    obtain ⟨rfl, rfl⟩ := hq71
    by_cases h73 : b5 = true
    · rw [if_pos h73] at H
      refine at_seg [5, 6, 7, 8, 9, 10, 11, 12] [] rfl [(7, .bool false)] [4] (L2 := [(4, .bool (Op.bytesLess p58 p59))]) (obs := [fun _ => (.bool (!b5) : Value) = .bool false]) (by kernel_rfl) ?_ ?_
      · intro w hs; exact congrArg Value.bool (not_ff (h73))
      refine at_end ?_
      refine at_thn ?_
      refine at_ret ?_
      obtain rfl := Option.some.inj H
      refine at_done (vs := [.bool (Op.bytesLess p58 p59)]) (obs := []) (.inl rfl) [.tmp 4] [] rfl (by kernel_rfl) (fun w hs => trivial) (fun w hs => ⟨_, _, [], rfl, ⟨rfl, rfl⟩, hle, hs⟩)
    · rw [if_neg h73] at H
      refine at_seg [5, 6, 7, 8, 9, 10, 11, 12] [] rfl [(7, .bool true)] [4] (L2 := [(4, .bool true)]) (obs := [fun _ => (.bool (!b5) : Value) = .bool true]) (by kernel_rfl) ?_ ?_
      · intro w hs; exact congrArg Value.bool (not_tt (ff_of h73))
      refine at_end ?_
      refine at_thn ?_
      refine at_ret ?_
      obtain rfl := Option.some.inj H
      refine at_done (vs := [.bool true]) (obs := []) (.inl rfl) [.tmp 4] [] rfl (by kernel_rfl) (fun w hs => trivial) (fun w hs => ⟨_, _, [], rfl, ⟨rfl, rfl⟩, hle, hs⟩)
  · rw [if_neg h66] at H
    refine at_seg [2, 3] [4, 5, 6, 7, 8, 9, 10, 11, 12] rfl [(2, .bool false)] [0, 1, 7, 8] (L2 := [(0, str p58), (1, str p59), (7, .bool false), (8, undef)]) (obs := [fun _ => (.bool b4 : Value) = .bool false]) (by kernel_rfl) ?_ ?_
    · intro w hs; exact congrArg Value.bool (ff_of h66)
    refine at_seg [4, 5, 6, 7, 8, 9, 10, 11, 12] [] rfl [] [4] (L2 := [(4, .bool (Op.bytesLess p58 p59))]) (obs := []) (by kernel_rfl) ?_ ?_
    · intro w hs; exact trivial
    refine at_end ?_
    refine at_thn ?_
    refine at_ret ?_
    obtain rfl := Option.some.inj H
    refine at_done (vs := [.bool (Op.bytesLess p58 p59)]) (obs := []) (.inl rfl) [.tmp 4] [] rfl (by kernel_rfl) (fun w hs => trivial) (fun w hs => ⟨_, _, [], rfl, ⟨rfl, rfl⟩, hle, hs⟩)
end Go.Proofs.Ytgdbigafcjaohaa
