import Derived.Test.YtabdhegmepaeiaaEng22
import Derived.Test.YtabdhegmepaeiaaProg
namespace Go.Proofs.Ytabdhegmepaeiaa
open Go Eng
set_option linter.unusedVariables false
set_option linter.unusedSimpArgs false

theorem hmo : Try.prog.follows .mixedOrders = true := by kernel_rfl
structure T_laws_Ring where
  Items : List (List Int)
  At : Int
def z_laws_Ring : T_laws_Ring := ⟨[], 0⟩
def k_laws_Ring : Kd T_laws_Ring where
  sz := 2
  rep := fun I x cs => ∃ A0 c0, cs = [.slice A0 x.Items.length c0, .int .i64 x.At] ∧ Rd (Kd.slice (Kd.int .i64)) I A0 c0 x.Items
  len := by rintro I x cs ⟨A0, c0, rfl, h0⟩; rfl
  mono := by rintro I J x cs hI ⟨A0, c0, rfl, h0⟩; exact ⟨A0, c0, rfl, h0.mono hI⟩
  oc := by rintro I x cs ⟨A0, c0, rfl, h0⟩; rfl
structure T_impl_Ring where
  Items : List (List Int)
  At : Int
def z_impl_Ring : T_impl_Ring := ⟨[], 0⟩
def k_impl_Ring : Kd T_impl_Ring where
  sz := 2
  rep := fun I x cs => ∃ A0 c0, cs = [.slice A0 x.Items.length c0, .int .i64 x.At] ∧ Rd (Kd.slice (Kd.int .i64)) I A0 c0 x.Items
  len := by rintro I x cs ⟨A0, c0, rfl, h0⟩; rfl
  mono := by rintro I J x cs hI ⟨A0, c0, rfl, h0⟩; exact ⟨A0, c0, rfl, h0.mono hI⟩
  oc := by rintro I x cs ⟨A0, c0, rfl, h0⟩; rfl
theorem info2 : ∃ i, Try.prog.info? 2 = some i ∧ i.zero = some (.int .i64 0) ∧ i.size = 1 ∧ i.bytes = 8 := infoOf (by kernel_rfl)
theorem info25 : ∃ i, Try.prog.info? 25 = some i ∧ i.zero = some (.slice none 0 0) ∧ i.size = 1 ∧ i.bytes = 24 := infoOf (by kernel_rfl)
theorem info27 : ∃ i, Try.prog.info? 27 = some i ∧ i.zero = some (.agg #[.slice none 0 0, .int .i64 0]) ∧ i.size = 2 ∧ i.bytes = 32 := infoOf (by kernel_rfl)
theorem und22 : Try.prog.underlying 22 = some (.slice 25) := by kernel_rfl
theorem und25 : Try.prog.underlying 25 = some (.slice 2) := by kernel_rfl
theorem und3 : Try.prog.underlying 3 = some (.int .i64) := by kernel_rfl
theorem ok6 : callOk Try.prog 6 = true := by kernel_rfl
theorem ok7 : callOk Try.prog 7 = true := by kernel_rfl
theorem ok8 : callOk Try.prog 8 = true := by kernel_rfl
theorem ok9 : callOk Try.prog 9 = true := by kernel_rfl
theorem ok11 : callOk Try.prog 11 = true := by kernel_rfl
theorem ok12 : callOk Try.prog 12 = true := by kernel_rfl
theorem ok13 : callOk Try.prog 13 = true := by kernel_rfl
theorem ok14 : callOk Try.prog 14 = true := by kernel_rfl
theorem ok15 : callOk Try.prog 15 = true := by kernel_rfl
theorem ok19 : callOk Try.prog 19 = true := by kernel_rfl
theorem ok20 : callOk Try.prog 20 = true := by kernel_rfl
theorem ok21 : callOk Try.prog 21 = true := by kernel_rfl
theorem ok25 : callOk Try.prog 25 = true := by kernel_rfl
theorem ok26 : callOk Try.prog 26 = true := by kernel_rfl
theorem ok27 : callOk Try.prog 27 = true := by kernel_rfl
theorem ok28 : callOk Try.prog 28 = true := by kernel_rfl
theorem ok29 : callOk Try.prog 29 = true := by kernel_rfl
theorem ok30 : callOk Try.prog 30 = true := by kernel_rfl
theorem ok31 : callOk Try.prog 31 = true := by kernel_rfl
theorem ok32 : callOk Try.prog 32 = true := by kernel_rfl
theorem ok33 : callOk Try.prog 33 = true := by kernel_rfl
theorem ok34 : callOk Try.prog 34 = true := by kernel_rfl
theorem ok35 : callOk Try.prog 35 = true := by kernel_rfl
theorem ok36 : callOk Try.prog 36 = true := by kernel_rfl
theorem ok37 : callOk Try.prog 37 = true := by kernel_rfl
theorem ok38 : callOk Try.prog 38 = true := by kernel_rfl
theorem ok43 : callOk Try.prog 43 = true := by kernel_rfl
theorem ok44 : callOk Try.prog 44 = true := by kernel_rfl
theorem ok45 : callOk Try.prog 45 = true := by kernel_rfl
theorem ok46 : callOk Try.prog 46 = true := by kernel_rfl
theorem ok47 : callOk Try.prog 47 = true := by kernel_rfl
theorem ok48 : callOk Try.prog 48 = true := by kernel_rfl
theorem ok49 : callOk Try.prog 49 = true := by kernel_rfl
theorem ok50 : callOk Try.prog 50 = true := by kernel_rfl
theorem ok51 : callOk Try.prog 51 = true := by kernel_rfl
theorem ok52 : callOk Try.prog 52 = true := by kernel_rfl
theorem ok53 : callOk Try.prog 53 = true := by kernel_rfl
theorem ok54 : callOk Try.prog 54 = true := by kernel_rfl
theorem ok58 : callOk Try.prog 58 = true := by kernel_rfl
theorem ok59 : callOk Try.prog 59 = true := by kernel_rfl
theorem ok60 : callOk Try.prog 60 = true := by kernel_rfl
theorem ok61 : callOk Try.prog 61 = true := by kernel_rfl
theorem ok62 : callOk Try.prog 62 = true := by kernel_rfl
theorem ok63 : callOk Try.prog 63 = true := by kernel_rfl
theorem ok67 : callOk Try.prog 67 = true := by kernel_rfl
theorem ok68 : callOk Try.prog 68 = true := by kernel_rfl
end Go.Proofs.Ytabdhegmepaeiaa
