import Derived.Test.YtabdhegmepaeiaaJ0
import Derived.Test.YtabdhegmepaeiaaEng23
namespace Go.Proofs.Ytabdhegmepaeiaa
open Go Eng Go.ChangeShapes Go.WideShapes Go.ChangeAt Go.RowKit
set_option linter.unusedVariables false
set_option linter.unusedSimpArgs false
theorem opens2 : Opens Try.prog 2 (Kd.int .i64) (QI .i64) := opens_int (by kernel_rfl)
theorem opens25 : Opens Try.prog 25 (Kd.slice (Kd.int .i64)) (QL (QI .i64)) := opens_slice (e := 2) (by kernel_rfl) (by kernel_rfl) (by decide) opens2
theorem opens22 : Opens Try.prog 22 (Kd.slice (Kd.slice (Kd.int .i64))) (QL (QL (QI .i64))) := opens_slice (e := 25) (by kernel_rfl) (by kernel_rfl) (by decide) opens25
def Q_laws_Ring (x : T_laws_Ring) : Prop := (QL (QL (QI .i64))) x.Items ∧ (QI .i64) x.At
theorem opens24 : Opens Try.prog 24 k_laws_Ring Q_laws_Ring := fun {H enc W fuel cs x} h => by
  obtain ⟨hl, n, hf⟩ := trod_fields (P := Try.prog) (t := 24) (m := 2) Try.underlying24 (by kernel_rfl) h
  rcases cs with _ | ⟨v0, cs⟩
  · simp at hl
  rcases cs with _ | ⟨v1, cs⟩
  · simp at hl
  rcases cs with _ | ⟨_, _⟩
  rotate_left
  · simp at hl
  obtain ⟨y0, h0⟩ := hf 0 _ rfl
  replace h0 : DataW.trod enc Try.prog W 0 (fun _ => true) true n 22 ((([v0, v1] : List Value).drop 0).take (Try.prog.cellsOf 22)) = some y0 := h0
  rw [show Try.prog.cellsOf 22 = 1 from by kernel_rfl] at h0
  obtain ⟨a0, q0, r0⟩ := opens22 h0
  replace r0 : (Kd.slice (Kd.slice (Kd.int .i64))).rep (fun b => W.heap[b]?) a0 [v0] := r0
  obtain ⟨y1, h1⟩ := hf 1 _ rfl
  replace h1 : DataW.trod enc Try.prog W 0 (fun _ => true) true n 2 ((([v0, v1] : List Value).drop 1).take (Try.prog.cellsOf 2)) = some y1 := h1
  rw [show Try.prog.cellsOf 2 = 1 from by kernel_rfl] at h1
  obtain ⟨a1, q1, r1⟩ := opens2 h1
  replace r1 : (Kd.int .i64).rep (fun b => W.heap[b]?) a1 [v1] := r1
  obtain ⟨A0_0, c0_0, e0, d0_0⟩ := r0
  cases e0
  cases r1
  exact ⟨⟨a0, a1⟩, ⟨q0, q1⟩, A0_0, c0_0, rfl, d0_0⟩
theorem opens4 : Opens Try.prog 4 Kd.bool QT := opens_bool (by kernel_rfl)
end Go.Proofs.Ytabdhegmepaeiaa
