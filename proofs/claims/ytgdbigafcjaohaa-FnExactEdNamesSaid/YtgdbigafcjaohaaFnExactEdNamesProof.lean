/- 'laws.FnExactEdNames' answers true: no condition. -/
import Derived.Test.YtgdbigafcjaohaaEdNamesLaw
import Derived.Test.YtgdbigafcjaohaaRows
import Derived.Test.YtgdbigafcjaohaaEng19
namespace Go.Proofs.Ytgdbigafcjaohaa.fnExactEdNames
open Go Eng Go.ChangeShapes Go.WideShapes Go.ChangeAt Go.RowKit
set_option linter.unusedVariables false

theorem own : ownKnob Try.prog.godebug = none := by kernel_rfl
theorem law_meets {I : Imm} : Meets Try.prog 3 ([] : List Value).toArray I [] (fun v _ M => v = .bool true ∧ M = []) := by
  obtain ⟨k, hk⟩ := law_ev
  exact laws_FnExactEdNames.calls hk
set_option maxRecDepth 100000 in
theorem lifted (os : Os) (started : os.Started) (H : Type) (enc : TypeId × Value → H) :
    ReturnsInHanded {} Try.checked os 3 .any (Rows.fnExactEdNamesSpec.pre6 enc Try.prog Try.f3 Rows.fnExactEdNamesRow.domain false) (Rows.fnExactEdNamesSpec.post enc Try.prog Try.f3 false true false false) := by
  refine returnsInHanded_of_change (C := Try.checked) own started (by kernel_rfl) Try.func3
    (ChangeSpec.witness6 (enc := enc) (C := Try.checked) false ⟨#[], #[], []⟩ 8 (by kernel_rfl) (by kernel_rfl) (by kernel_rfl) (by kernel_rfl)) ?_
  intro W base args ds gs before hval hW _ _
  exact law_none Try.params3 rfl Try.underlying4 rfl rfl hW law_meets
theorem proved : Rows.FnExactEdNamesSaid :=
  OpenClaim.holds_of_wide 3 Try.f3 rfl rfl rfl rfl rfl rfl rfl ⟨rfl, rfl, rfl, rfl, rfl⟩ rfl rfl rfl rfl rfl (by kernel_rfl) Try.func3 (by kernel_rfl)
    (of_decide_eq_true (by kernel_rfl)) (by unfold Func.isWrapper; first | (rw [if_pos (by decide +kernel)]; kernel_rfl) | (rw [if_neg (by decide +kernel)]; exact ⟨rfl, rfl⟩))
    (fun os started H enc _ => lifted os started H enc)
#print axioms proved
end Go.Proofs.Ytgdbigafcjaohaa.fnExactEdNames
