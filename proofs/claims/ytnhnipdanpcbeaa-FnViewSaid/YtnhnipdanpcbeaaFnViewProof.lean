/- 'laws.FnView' answers true for every row of bytes, and the row reads as it did: no condition. -/
import Derived.Test.YtnhnipdanpcbeaaPFnViewLaw
import Derived.Test.YtnhnipdanpcbeaaRows
import Derived.Test.YtnhnipdanpcbeaaEng14
namespace Go.Proofs.Ytnhnipdanpcbeaa.fnView
open Go Eng Go.ChangeShapes Go.WideShapes Go.ChangeAt Go.RowKit
set_option linter.unusedVariables false

theorem own : ownKnob Try.prog.godebug = none := by kernel_rfl
theorem law_meets {I : Imm} {A : Option Addr} {c : Nat} {xs : List Int} (h : Rd (Kd.int .u8) I A c xs) : Meets Try.prog 4 ([.slice A xs.length c] : List Value).toArray I [] (fun v _ M => v = .bool true ∧ M = []) := by
  obtain ⟨k, hk⟩ := law_ev xs
  exact laws_FnView.calls hk h
set_option maxRecDepth 100000 in
theorem lifted (os : Os) (started : os.Started) (H : Type) (enc : TypeId × Value → H) :
    ReturnsInHanded {} Try.checked os 4 .any (Rows.fnViewSpec.pre6 enc Try.prog Try.f4 Rows.fnViewRow.domain false) (Rows.fnViewSpec.post enc Try.prog Try.f4 false true false false) := by
  refine returnsInHanded_of_change (C := Try.checked) own started (by kernel_rfl) Try.func4
    (ChangeSpec.witness6 (enc := enc) (C := Try.checked) false ⟨#[], #[.slice none 0 0], []⟩ 8 (by kernel_rfl) (by kernel_rfl) (by kernel_rfl) (by kernel_rfl)) ?_
  intro W base args ds gs before hval hW _ _
  exact law_bytes (by kernel_rfl) (by kernel_rfl) (of_decide_eq_true (by kernel_rfl)) Try.params4 rfl Try.underlying4 rfl Try.underlying22 Try.underlying5 (by kernel_rfl) (fun d => rfl) hval hW
    (fun A c xs hb hm h => law_meets h)
theorem proved : Rows.FnViewSaid :=
  OpenClaim.holds_of_wide 4 Try.f4 rfl rfl rfl rfl rfl rfl rfl ⟨rfl, rfl, rfl, rfl, rfl⟩ rfl rfl rfl rfl rfl (by kernel_rfl) Try.func4 (by kernel_rfl)
    (of_decide_eq_true (by kernel_rfl)) (by unfold Func.isWrapper; first | (rw [if_pos (by decide +kernel)]; kernel_rfl) | (rw [if_neg (by decide +kernel)]; exact ⟨rfl, rfl⟩))
    (fun os started H enc _ => lifted os started H enc)
#print axioms proved
end Go.Proofs.Ytnhnipdanpcbeaa.fnView
