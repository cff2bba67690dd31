/- 'laws.FnExactRingJoin' answers true, whatever the arguments, and they read as they did: no condition. -/
import Derived.Test.YtabdhegmepaeiaaFnExactRingJoinLaw
import Derived.Test.YtabdhegmepaeiaaOpens
import Derived.Test.YtabdhegmepaeiaaRows
namespace Go.Proofs.Ytabdhegmepaeiaa.fnExactRingJoin
open Go Eng Go.ChangeShapes Go.WideShapes Go.ChangeAt Go.RowKit
set_option linter.unusedVariables false

theorem own : ownKnob Try.prog.godebug = none := by kernel_rfl
theorem met {H : Type} {enc : TypeId × Value → H} {W : World} {base : Nat} {args : Array Value} (hop : OpenArgs enc Try.prog W base [24, 25, 4] args.toList) : Meets Try.prog 5 args (fun b => W.heap[b]?) [] (fun v _ M => v = .bool true ∧ M = []) := by
  obtain ⟨v0, w0, e0, r0, o0, hop⟩ := openArgs_cons hop
  obtain ⟨v1, w1, e1, r1, o1, hop⟩ := openArgs_cons hop
  obtain ⟨v2, w2, e2, r2, o2, hop⟩ := openArgs_cons hop
  obtain rfl := openArgs_nil hop
  subst e2
  subst e1
  obtain rfl : args = [v0, v1, v2].toArray := by rw [← e0]
  obtain ⟨p0, cs0, rfl, q0, s0⟩ := arg_struct (K := k_laws_Ring) Try.underlying24 opens24 r0 o0
  obtain ⟨A0_0, c0_0, rfl, h0_0⟩ := s0
  obtain ⟨p1, A1, c1, rfl, q1, h1⟩ := arg_slice (K := (Kd.int .i64)) Try.underlying25 opens25 r1 o1
  obtain ⟨p2, rfl⟩ := arg_bool (by kernel_rfl) o2
  obtain ⟨k, hk⟩ := law_ev p0 p1 p2 q0 q1
  exact laws_FnExactRingJoin.calls hk h0_0 h1
set_option maxRecDepth 100000 in
theorem lifted (os : Os) (started : os.Started) (H : Type) (enc : TypeId × Value → H) :
    ReturnsInHanded {} Try.checked os 5 .any (Rows.fnExactRingJoinSpec.pre6 enc Try.prog Try.f5 Rows.fnExactRingJoinRow.domain false) (Rows.fnExactRingJoinSpec.post enc Try.prog Try.f5 false true false false) := by
  refine returnsInHanded_of_change (C := Try.checked) own started (by kernel_rfl) Try.func5
    (ChangeSpec.witness6 (enc := enc) (C := Try.checked) false ⟨#[], #[.agg #[.slice none 0 0, .int .i64 0], .slice none 0 0, .bool false], []⟩ 8 (by kernel_rfl) (by kernel_rfl) (by kernel_rfl) (by kernel_rfl)) ?_
  intro W base args ds gs before hval hW _ _
  refine law_any (fn := Try.f5) (by kernel_rfl) (by kernel_rfl) rfl Try.underlying4 rfl (fun ds hd => ?_) hval hW (fun hop => met hop)
  match ds, hd with
  | [d0, d1, d2], _ => rfl
theorem proved : Rows.FnExactRingJoinSaid :=
  OpenClaim.holds_of_wide 5 Try.f5 rfl rfl rfl rfl rfl rfl rfl ⟨rfl, rfl, rfl, rfl, rfl⟩ rfl rfl rfl rfl rfl (by kernel_rfl) Try.func5 (by kernel_rfl)
    (of_decide_eq_true (by kernel_rfl)) (by unfold Func.isWrapper; first | (rw [if_pos (by decide +kernel)]; kernel_rfl) | (rw [if_neg (by decide +kernel)]; exact ⟨rfl, rfl⟩))
    (fun os started H enc _ => lifted os started H enc)
#print axioms proved
end Go.Proofs.Ytabdhegmepaeiaa.fnExactRingJoin
