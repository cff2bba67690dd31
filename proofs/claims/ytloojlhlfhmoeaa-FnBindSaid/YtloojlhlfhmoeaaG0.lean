import Derived.Test.YtloojlhlfhmoeaaEng18
import Derived.Test.YtloojlhlfhmoeaaProg
namespace Go.Proofs.Ytloojlhlfhmoeaa
open Go Eng
set_option linter.unusedVariables false
set_option linter.unusedSimpArgs false

theorem hmo : Try.prog.follows .mixedOrders = true := by kernel_rfl
structure T_impl_Key where
  Map : Int
  Keys : List UInt8
  Name : List UInt8
def z_impl_Key : T_impl_Key := ⟨0, [], []⟩
def k_impl_Key : Kd T_impl_Key where
  sz := 3
  rep := fun I x cs => cs = [.int .i64 x.Map, str x.Keys, str x.Name]
  len := by rintro I x cs rfl; rfl
  mono := by rintro I J x cs hI rfl; exact rfl
  oc := by rintro I x cs rfl; rfl
structure T_spec_l01Src where
  b : List Int
  at_ : Int
  mix : Int
  size : Int
def z_spec_l01Src : T_spec_l01Src := ⟨[], 0, 0, 0⟩
def k_spec_l01Src : Kd T_spec_l01Src where
  sz := 4
  rep := fun I x cs => ∃ A0 c0, cs = [.slice A0 x.b.length c0, .int .i64 x.at_, .int .u64 x.mix, .int .i64 x.size] ∧ Rd (Kd.int .u8) I A0 c0 x.b
  len := by rintro I x cs ⟨A0, c0, rfl, h0⟩; rfl
  mono := by rintro I J x cs hI ⟨A0, c0, rfl, h0⟩; exact ⟨A0, c0, rfl, h0.mono hI⟩
  oc := by rintro I x cs ⟨A0, c0, rfl, h0⟩; rfl
structure T_impl_KeyOut where
  Kind : Int
  Name : List UInt8
  Used : Int
def z_impl_KeyOut : T_impl_KeyOut := ⟨0, [], 0⟩
def k_impl_KeyOut : Kd T_impl_KeyOut where
  sz := 3
  rep := fun I x cs => cs = [.int .i64 x.Kind, str x.Name, .int .i64 x.Used]
  len := by rintro I x cs rfl; rfl
  mono := by rintro I J x cs hI rfl; exact rfl
  oc := by rintro I x cs rfl; rfl
theorem info25 : ∃ i, Try.prog.info? 25 = some i ∧ i.zero = some (.agg #[.int .i64 0, str [], str []]) ∧ i.size = 3 ∧ i.bytes = 40 := infoOf (by kernel_rfl)
theorem info31 : ∃ i, Try.prog.info? 31 = some i ∧ i.zero = some (.agg #[.int .i64 0, str [], .int .i64 0]) ∧ i.size = 3 ∧ i.bytes = 32 := infoOf (by kernel_rfl)
theorem und22 : Try.prog.underlying 22 = some (.slice 5) := by kernel_rfl
theorem und23 : Try.prog.underlying 23 = some (.slice 25) := by kernel_rfl
theorem und3 : Try.prog.underlying 3 = some (.int .i64) := by kernel_rfl
theorem und5 : Try.prog.underlying 5 = some (.int .u8) := by kernel_rfl
theorem und9 : Try.prog.underlying 9 = some .string := by kernel_rfl
theorem ok4 : callOk Try.prog 4 = true := by kernel_rfl
theorem ok5 : callOk Try.prog 5 = true := by kernel_rfl
theorem ok6 : callOk Try.prog 6 = true := by kernel_rfl
theorem ok7 : callOk Try.prog 7 = true := by kernel_rfl
theorem ok8 : callOk Try.prog 8 = true := by kernel_rfl
theorem ok9 : callOk Try.prog 9 = true := by kernel_rfl
theorem ok10 : callOk Try.prog 10 = true := by kernel_rfl
theorem ok11 : callOk Try.prog 11 = true := by kernel_rfl
theorem ok12 : callOk Try.prog 12 = true := by kernel_rfl
theorem ok13 : callOk Try.prog 13 = true := by kernel_rfl
theorem ok14 : callOk Try.prog 14 = true := by kernel_rfl
theorem ok15 : callOk Try.prog 15 = true := by kernel_rfl
theorem ok16 : callOk Try.prog 16 = true := by kernel_rfl
theorem ok17 : callOk Try.prog 17 = true := by kernel_rfl
theorem ok18 : callOk Try.prog 18 = true := by kernel_rfl
theorem ok19 : callOk Try.prog 19 = true := by kernel_rfl
theorem ok20 : callOk Try.prog 20 = true := by kernel_rfl
theorem ok21 : callOk Try.prog 21 = true := by kernel_rfl
theorem ok22 : callOk Try.prog 22 = true := by kernel_rfl
theorem ok23 : callOk Try.prog 23 = true := by kernel_rfl
theorem ok24 : callOk Try.prog 24 = true := by kernel_rfl
theorem ok25 : callOk Try.prog 25 = true := by kernel_rfl
theorem ok26 : callOk Try.prog 26 = true := by kernel_rfl
theorem ok27 : callOk Try.prog 27 = true := by kernel_rfl
theorem ok28 : callOk Try.prog 28 = true := by kernel_rfl
theorem ok29 : callOk Try.prog 29 = true := by kernel_rfl
theorem ok30 : callOk Try.prog 30 = true := by kernel_rfl
theorem ok31 : callOk Try.prog 31 = true := by kernel_rfl
theorem ok32 : callOk Try.prog 32 = true := by kernel_rfl
theorem ok33 : callOk Try.prog 33 = true := by kernel_rfl
theorem ok34 : callOk Try.prog 34 = true := by kernel_rfl
theorem ok37 : callOk Try.prog 37 = true := by kernel_rfl
theorem ok38 : callOk Try.prog 38 = true := by kernel_rfl
theorem ok39 : callOk Try.prog 39 = true := by kernel_rfl
theorem ok40 : callOk Try.prog 40 = true := by kernel_rfl
theorem ok41 : callOk Try.prog 41 = true := by kernel_rfl
theorem ok42 : callOk Try.prog 42 = true := by kernel_rfl
theorem ok44 : callOk Try.prog 44 = true := by kernel_rfl
theorem ok45 : callOk Try.prog 45 = true := by kernel_rfl
end Go.Proofs.Ytloojlhlfhmoeaa
