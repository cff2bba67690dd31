import Derived.Test.YtnhnipdanpcbeaaEng24
import Derived.Test.YtnhnipdanpcbeaaProg
namespace Go.Proofs.Ytnhnipdanpcbeaa
open Go Eng
set_option linter.unusedVariables false
set_option linter.unusedSimpArgs false

theorem hmo : Try.prog.follows .mixedOrders = true := by kernel_rfl
structure T_spec_l01Src where
  b : List Int
  at_ : Int
  mix : Int
  size : Int
def z_spec_l01Src : T_spec_l01Src := ⟨[], 0, 0, 0⟩
def k_spec_l01Src : Kd T_spec_l01Src where
  sz := 4
  rep := fun I x cs => ∃ A0 c0, cs = [.slice A0 x.b.length c0, .int .i64 x.at_, .int .u64 x.mix, .int .i64 x.size] ∧ Rd (Kd.int .u8) I A0 c0 x.b
  len := by rintro I x cs ⟨A0, c0, rfl, h0⟩; rfl
  mono := by rintro I J x cs hI ⟨A0, c0, rfl, h0⟩; exact ⟨A0, c0, rfl, h0.mono hI⟩
  oc := by rintro I x cs ⟨A0, c0, rfl, h0⟩; rfl
structure T_impl_Buf where
  Points : List Int
  Cursor : Int
  Mark : Int
def z_impl_Buf : T_impl_Buf := ⟨[], 0, 0⟩
def k_impl_Buf : Kd T_impl_Buf where
  sz := 3
  rep := fun I x cs => ∃ A0 c0, cs = [.slice A0 x.Points.length c0, .int .i64 x.Cursor, .int .i64 x.Mark] ∧ Rd (Kd.int .i64) I A0 c0 x.Points
  len := by rintro I x cs ⟨A0, c0, rfl, h0⟩; rfl
  mono := by rintro I J x cs hI ⟨A0, c0, rfl, h0⟩; exact ⟨A0, c0, rfl, h0.mono hI⟩
  oc := by rintro I x cs ⟨A0, c0, rfl, h0⟩; rfl
structure T_impl_Cell where
  Points : List Int
  Attr : Int
def z_impl_Cell : T_impl_Cell := ⟨[], 0⟩
def k_impl_Cell : Kd T_impl_Cell where
  sz := 2
  rep := fun I x cs => ∃ A0 c0, cs = [.slice A0 x.Points.length c0, .int .i64 x.Attr] ∧ Rd (Kd.int .i64) I A0 c0 x.Points
  len := by rintro I x cs ⟨A0, c0, rfl, h0⟩; rfl
  mono := by rintro I J x cs hI ⟨A0, c0, rfl, h0⟩; exact ⟨A0, c0, rfl, h0.mono hI⟩
  oc := by rintro I x cs ⟨A0, c0, rfl, h0⟩; rfl
structure T_impl_Spot where
  Line : Int
  Col : Int
def z_impl_Spot : T_impl_Spot := ⟨0, 0⟩
def k_impl_Spot : Kd T_impl_Spot where
  sz := 2
  rep := fun I x cs => cs = [.int .i64 x.Line, .int .i64 x.Col]
  len := by rintro I x cs rfl; rfl
  mono := by rintro I J x cs hI rfl; exact rfl
  oc := by rintro I x cs rfl; rfl
structure T_spec_l09Pen where
  cols : Int
  rows : List (List T_impl_Cell)
  col : Int
def z_spec_l09Pen : T_spec_l09Pen := ⟨0, [], 0⟩
def k_spec_l09Pen : Kd T_spec_l09Pen where
  sz := 3
  rep := fun I x cs => ∃ A0 c0, cs = [.int .i64 x.cols, .slice A0 x.rows.length c0, .int .i64 x.col] ∧ Rd (Kd.slice k_impl_Cell) I A0 c0 x.rows
  len := by rintro I x cs ⟨A0, c0, rfl, h0⟩; rfl
  mono := by rintro I J x cs hI ⟨A0, c0, rfl, h0⟩; exact ⟨A0, c0, rfl, h0.mono hI⟩
  oc := by rintro I x cs ⟨A0, c0, rfl, h0⟩; rfl
structure T_impl_Grid where
  Rows : Int
  Cols : Int
  Cells : List T_impl_Cell
  Row : Int
  Col : Int
  Hang : Bool
  Attr : Int
def z_impl_Grid : T_impl_Grid := ⟨0, 0, [], 0, 0, false, 0⟩
def k_impl_Grid : Kd T_impl_Grid where
  sz := 7
  rep := fun I x cs => ∃ A0 c0, cs = [.int .i64 x.Rows, .int .i64 x.Cols, .slice A0 x.Cells.length c0, .int .i64 x.Row, .int .i64 x.Col, .bool x.Hang, .int .i64 x.Attr] ∧ Rd k_impl_Cell I A0 c0 x.Cells
  len := by rintro I x cs ⟨A0, c0, rfl, h0⟩; rfl
  mono := by rintro I J x cs hI ⟨A0, c0, rfl, h0⟩; exact ⟨A0, c0, rfl, h0.mono hI⟩
  oc := by rintro I x cs ⟨A0, c0, rfl, h0⟩; rfl
structure T_impl_View where
  Grid : T_impl_Grid
  Top : Int
  Code : Int
def z_impl_View : T_impl_View := ⟨z_impl_Grid, 0, 0⟩
def k_impl_View : Kd T_impl_View where
  sz := 9
  rep := fun I x cs => ∃ A0 c0, cs = [.int .i64 x.Grid.Rows, .int .i64 x.Grid.Cols, .slice A0 x.Grid.Cells.length c0, .int .i64 x.Grid.Row, .int .i64 x.Grid.Col, .bool x.Grid.Hang, .int .i64 x.Grid.Attr, .int .i64 x.Top, .int .i64 x.Code] ∧ Rd k_impl_Cell I A0 c0 x.Grid.Cells
  len := by rintro I x cs ⟨A0, c0, rfl, h0⟩; rfl
  mono := by rintro I J x cs hI ⟨A0, c0, rfl, h0⟩; exact ⟨A0, c0, rfl, h0.mono hI⟩
  oc := by rintro I x cs ⟨A0, c0, rfl, h0⟩; rfl
structure T_impl_seen where
  cell : T_impl_Cell
  row : Int
  col : Int
def z_impl_seen : T_impl_seen := ⟨z_impl_Cell, 0, 0⟩
def k_impl_seen : Kd T_impl_seen where
  sz := 4
  rep := fun I x cs => ∃ A0 c0, cs = [.slice A0 x.cell.Points.length c0, .int .i64 x.cell.Attr, .int .i64 x.row, .int .i64 x.col] ∧ Rd (Kd.int .i64) I A0 c0 x.cell.Points
  len := by rintro I x cs ⟨A0, c0, rfl, h0⟩; rfl
  mono := by rintro I J x cs hI ⟨A0, c0, rfl, h0⟩; exact ⟨A0, c0, rfl, h0.mono hI⟩
  oc := by rintro I x cs ⟨A0, c0, rfl, h0⟩; rfl
structure T_impl_layout where
  cols : Int
  row : Int
  col : Int
  cells : List T_impl_seen
  inRow : Bool
  spots : List T_impl_Spot
def z_impl_layout : T_impl_layout := ⟨0, 0, 0, [], false, []⟩
def k_impl_layout : Kd T_impl_layout where
  sz := 6
  rep := fun I x cs => ∃ A0 c0, ∃ A1 c1, cs = [.int .i64 x.cols, .int .i64 x.row, .int .i64 x.col, .slice A0 x.cells.length c0, .bool x.inRow, .slice A1 x.spots.length c1] ∧ Rd k_impl_seen I A0 c0 x.cells ∧ Rd k_impl_Spot I A1 c1 x.spots
  len := by rintro I x cs ⟨A0, c0, A1, c1, rfl, h0, h1⟩; rfl
  mono := by rintro I J x cs hI ⟨A0, c0, A1, c1, rfl, h0, h1⟩; exact ⟨A0, c0, A1, c1, rfl, h0.mono hI, h1.mono hI⟩
  oc := by rintro I x cs ⟨A0, c0, A1, c1, rfl, h0, h1⟩; rfl
structure T_anon96 where
  e0 : Int
  e1 : Int
def z_anon96 : T_anon96 := ⟨0, 0⟩
def k_anon96 : Kd T_anon96 where
  sz := 2
  rep := fun I x cs => cs = [.int .i64 x.e0, .int .i64 x.e1]
  len := by rintro I x cs rfl; rfl
  mono := by rintro I J x cs hI rfl; exact rfl
  oc := by rintro I x cs rfl; rfl
def d_impl_Cell : DK T_impl_Cell Int where
  sz := 2
  q := 0
  K := (Kd.int .i64)
  ei := 2
  get := fun x => x.Points
  enc := fun x A c => [.slice A x.Points.length c, .int .i64 x.Attr]
  kd := k_impl_Cell
  hsz := rfl
  hlen := fun _ _ _ => rfl
  hoc := fun _ _ _ => rfl
  hdown := fun h => ⟨_, _, rfl, h⟩
def d_impl_seen : DK T_impl_seen Int where
  sz := 4
  q := 0
  K := (Kd.int .i64)
  ei := 2
  get := fun x => x.cell.Points
  enc := fun x A c => [.slice A x.cell.Points.length c, .int .i64 x.cell.Attr, .int .i64 x.row, .int .i64 x.col]
  kd := k_impl_seen
  hsz := rfl
  hlen := fun _ _ _ => rfl
  hoc := fun _ _ _ => rfl
  hdown := fun h => ⟨_, _, rfl, h⟩
theorem info2 : ∃ i, Try.prog.info? 2 = some i ∧ i.zero = some (.int .i64 0) ∧ i.size = 1 ∧ i.bytes = 8 := infoOf (by kernel_rfl)
theorem info25 : ∃ i, Try.prog.info? 25 = some i ∧ i.zero = some (.agg #[.slice none 0 0, .int .i64 0, .int .i64 0]) ∧ i.size = 3 ∧ i.bytes = 40 := infoOf (by kernel_rfl)
theorem info31 : ∃ i, Try.prog.info? 31 = some i ∧ i.zero = some (.agg #[.int .i64 0, .int .i64 0]) ∧ i.size = 2 ∧ i.bytes = 16 := infoOf (by kernel_rfl)
theorem info36 : ∃ i, Try.prog.info? 36 = some i ∧ i.zero = some (.slice none 0 0) ∧ i.size = 1 ∧ i.bytes = 24 := infoOf (by kernel_rfl)
theorem info38 : ∃ i, Try.prog.info? 38 = some i ∧ i.zero = some (.agg #[.int .i64 0, .int .i64 0, .slice none 0 0, .int .i64 0, .int .i64 0, .bool false, .int .i64 0]) ∧ i.size = 7 ∧ i.bytes = 72 := infoOf (by kernel_rfl)
theorem info40 : ∃ i, Try.prog.info? 40 = some i ∧ i.zero = some (.agg #[.int .i64 0, .int .i64 0, .slice none 0 0, .int .i64 0, .int .i64 0, .bool false, .int .i64 0, .int .i64 0, .int .i64 0]) ∧ i.size = 9 ∧ i.bytes = 88 := infoOf (by kernel_rfl)
theorem info71 : ∃ i, Try.prog.info? 71 = some i ∧ i.zero = some (.agg #[.slice none 0 0, .int .i64 0]) ∧ i.size = 2 ∧ i.bytes = 32 := infoOf (by kernel_rfl)
theorem info74 : ∃ i, Try.prog.info? 74 = some i ∧ i.zero = some (.agg #[.slice none 0 0, .int .i64 0, .int .i64 0, .int .i64 0]) ∧ i.size = 4 ∧ i.bytes = 48 := infoOf (by kernel_rfl)
theorem info96 : ∃ i, Try.prog.info? 96 = some i ∧ i.zero = some (.agg #[.int .i64 0, .int .i64 0]) ∧ i.size = 2 ∧ i.bytes = 16 := infoOf (by kernel_rfl)
theorem und23 : Try.prog.underlying 23 = some (.slice 2) := by kernel_rfl
theorem und36 : Try.prog.underlying 36 = some (.slice 71) := by kernel_rfl
theorem und57 : Try.prog.underlying 57 = some (.slice 31) := by kernel_rfl
theorem und61 : Try.prog.underlying 61 = some (.slice 74) := by kernel_rfl
theorem und67 : Try.prog.underlying 67 = some (.slice 36) := by kernel_rfl
theorem und4 : Try.prog.underlying 4 = some .bool := by kernel_rfl
theorem ok6 : callOk Try.prog 6 = true := by kernel_rfl
theorem ok7 : callOk Try.prog 7 = true := by kernel_rfl
theorem ok9 : callOk Try.prog 9 = true := by kernel_rfl
theorem ok11 : callOk Try.prog 11 = true := by kernel_rfl
theorem ok12 : callOk Try.prog 12 = true := by kernel_rfl
theorem ok13 : callOk Try.prog 13 = true := by kernel_rfl
theorem ok14 : callOk Try.prog 14 = true := by kernel_rfl
theorem ok15 : callOk Try.prog 15 = true := by kernel_rfl
theorem ok16 : callOk Try.prog 16 = true := by kernel_rfl
theorem ok17 : callOk Try.prog 17 = true := by kernel_rfl
theorem ok18 : callOk Try.prog 18 = true := by kernel_rfl
theorem ok19 : callOk Try.prog 19 = true := by kernel_rfl
theorem ok20 : callOk Try.prog 20 = true := by kernel_rfl
theorem ok21 : callOk Try.prog 21 = true := by kernel_rfl
theorem ok22 : callOk Try.prog 22 = true := by kernel_rfl
theorem ok23 : callOk Try.prog 23 = true := by kernel_rfl
theorem ok24 : callOk Try.prog 24 = true := by kernel_rfl
theorem ok25 : callOk Try.prog 25 = true := by kernel_rfl
theorem ok26 : callOk Try.prog 26 = true := by kernel_rfl
theorem ok27 : callOk Try.prog 27 = true := by kernel_rfl
theorem ok28 : callOk Try.prog 28 = true := by kernel_rfl
theorem ok29 : callOk Try.prog 29 = true := by kernel_rfl
theorem ok30 : callOk Try.prog 30 = true := by kernel_rfl
theorem ok31 : callOk Try.prog 31 = true := by kernel_rfl
theorem ok32 : callOk Try.prog 32 = true := by kernel_rfl
theorem ok33 : callOk Try.prog 33 = true := by kernel_rfl
theorem ok34 : callOk Try.prog 34 = true := by kernel_rfl
theorem ok35 : callOk Try.prog 35 = true := by kernel_rfl
theorem ok36 : callOk Try.prog 36 = true := by kernel_rfl
theorem ok37 : callOk Try.prog 37 = true := by kernel_rfl
theorem ok38 : callOk Try.prog 38 = true := by kernel_rfl
theorem ok39 : callOk Try.prog 39 = true := by kernel_rfl
theorem ok40 : callOk Try.prog 40 = true := by kernel_rfl
theorem ok41 : callOk Try.prog 41 = true := by kernel_rfl
theorem ok42 : callOk Try.prog 42 = true := by kernel_rfl
theorem ok43 : callOk Try.prog 43 = true := by kernel_rfl
theorem ok44 : callOk Try.prog 44 = true := by kernel_rfl
theorem ok45 : callOk Try.prog 45 = true := by kernel_rfl
theorem ok46 : callOk Try.prog 46 = true := by kernel_rfl
theorem ok47 : callOk Try.prog 47 = true := by kernel_rfl
theorem ok48 : callOk Try.prog 48 = true := by kernel_rfl
theorem ok49 : callOk Try.prog 49 = true := by kernel_rfl
theorem ok50 : callOk Try.prog 50 = true := by kernel_rfl
theorem ok51 : callOk Try.prog 51 = true := by kernel_rfl
theorem ok52 : callOk Try.prog 52 = true := by kernel_rfl
theorem ok53 : callOk Try.prog 53 = true := by kernel_rfl
theorem ok54 : callOk Try.prog 54 = true := by kernel_rfl
theorem ok55 : callOk Try.prog 55 = true := by kernel_rfl
theorem ok56 : callOk Try.prog 56 = true := by kernel_rfl
theorem ok57 : callOk Try.prog 57 = true := by kernel_rfl
theorem ok58 : callOk Try.prog 58 = true := by kernel_rfl
theorem ok59 : callOk Try.prog 59 = true := by kernel_rfl
theorem ok60 : callOk Try.prog 60 = true := by kernel_rfl
theorem ok61 : callOk Try.prog 61 = true := by kernel_rfl
theorem ok62 : callOk Try.prog 62 = true := by kernel_rfl
theorem ok63 : callOk Try.prog 63 = true := by kernel_rfl
theorem ok64 : callOk Try.prog 64 = true := by kernel_rfl
theorem ok65 : callOk Try.prog 65 = true := by kernel_rfl
theorem ok66 : callOk Try.prog 66 = true := by kernel_rfl
theorem ok67 : callOk Try.prog 67 = true := by kernel_rfl
theorem ok68 : callOk Try.prog 68 = true := by kernel_rfl
theorem ok69 : callOk Try.prog 69 = true := by kernel_rfl
theorem ok70 : callOk Try.prog 70 = true := by kernel_rfl
theorem ok71 : callOk Try.prog 71 = true := by kernel_rfl
end Go.Proofs.Ytnhnipdanpcbeaa
