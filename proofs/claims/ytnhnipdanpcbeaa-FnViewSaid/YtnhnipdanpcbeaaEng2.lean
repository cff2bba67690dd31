/- The engine, part 2: what an operation that turns nothing yields. -/
import Derived.Test.YtnhnipdanpcbeaaEng1
import Derived.WalkKit
namespace Go.Proofs.Ytnhnipdanpcbeaa.Eng
open Go

def ad0 : Addr := ⟨0, 0, none⟩
def bl (s : ByteArray) : List UInt8 := s.data.toList
def str (l : List UInt8) : Value := .string ⟨⟨l⟩⟩
def bt (l : List UInt8) (i : Int) : Int := ((l.getD i.toNat 0).toNat : Int)
def isAgg? (P : Program) (t : TypeId) : Option Bool := match P.underlying t with
  | some (.struct _) => some true
  | some (.array _ _) => some true
  | some _ => some false
  | none => none
def size? (P : Program) (t : TypeId) : Option Nat := match P.info? t with
  | some i => some i.size
  | none => none
def CellsAt (w : World) (ad : Addr) : List Value → Nat → Prop
  | [], _ => True
  | v :: r, i => w.cell? (ad.add i) = some v ∧ CellsAt w ad r (i + 1)

def bitsV (op : BinOp) (k : IntKind) (x y : Int) : Int :=
  match op with
  | .and => k.wrap ((BitVec.ofInt k.bits x) &&& (BitVec.ofInt k.bits y)).toNat
  | .or => k.wrap ((BitVec.ofInt k.bits x) ||| (BitVec.ofInt k.bits y)).toNat
  | .xor => k.wrap ((BitVec.ofInt k.bits x) ^^^ (BitVec.ofInt k.bits y)).toNat
  | _ => k.wrap ((BitVec.ofInt k.bits x) &&& ~~~(BitVec.ofInt k.bits y)).toNat
def intOp (op : BinOp) (k : IntKind) (x y : Int) : Option (Value × Prop) :=
  match op with
  | .add => some (.int k (k.wrap (x + y)), True)
  | .sub => some (.int k (k.wrap (x - y)), True)
  | .mul => some (.int k (k.wrap (x * y)), True)
  | .quo => some (.int k (k.wrap (x.tdiv y)), ¬ y = 0)
  | .rem => some (.int k (x.tmod y), ¬ y = 0)
  | .and => some (.int k (bitsV .and k x y), True)
  | .or => some (.int k (bitsV .or k x y), True)
  | .xor => some (.int k (bitsV .xor k x y), True)
  | .andNot => some (.int k (bitsV .andNot k x y), True)
  | .eql => some (.bool (x == y), True)
  | .neq => some (.bool (x != y), True)
  | .lss => some (.bool (x < y), True)
  | .leq => some (.bool (x ≤ y), True)
  | .gtr => some (.bool (x > y), True)
  | .geq => some (.bool (x ≥ y), True)
  | _ => none
def shOp (op : BinOp) (k : IntKind) (x y : Int) : Option (Value × Prop) :=
  match op with
  | .shl => some (.int k (k.wrap (x * 2 ^ (min y.toNat k.bits))), 0 ≤ y)
  | .shr => some (.int k (x.fdiv (2 ^ (min y.toNat k.bits))), 0 ≤ y)
  | _ => none
def strOp (op : BinOp) (x y : List UInt8) : Option (Value × Prop) :=
  match op with
  | .add => some (str (x ++ y), x.length + y.length ≤ 9223372036854775807)
  | .eql => some (.bool (x == y), True)
  | .neq => some (.bool (!(x == y)), True)
  | .lss => some (.bool (Op.bytesLess x y), True)
  | .leq => some (.bool (Op.bytesLess x y || x == y), True)
  | .gtr => some (.bool (!(Op.bytesLess x y || x == y)), True)
  | .geq => some (.bool (!Op.bytesLess x y), True)
  | _ => none
def binV (op : BinOp) (x y : Value) : Option (Value × Prop) :=
  match x, y with
  | .int k a, .int k' b => match op with
    | .shl => shOp .shl k a b
    | .shr => shOp .shr k a b
    | op => if k = k' then intOp op k a b else none
  | .string a, .string b => strOp op (bl a) (bl b)
  | _, _ => none
def lowOf (lo : Option Value) : Option Int := match lo with
  | none => some 0
  | some (.int _ i) => some i
  | _ => none
def highOf (hi : Option Value) (n : Int) : Option Int := match hi with
  | none => some n
  | some (.int _ i) => some i
  | _ => none
def opvo (L : Fra) : Option Operand → Option (Option Value)
  | none => some none
  | some x => match opv L x with
    | some v => some (some v)
    | none => none
theorem opvo_eval {a : Act} {n : Nat} {L : Fra} (h : FrOk a n L) {x : Option Operand} {v : Option Value} (e : opvo L x = some v) : x.map a.eval = v := by
  cases x with
  | none => exact Option.some.inj e
  | some x =>
    simp only [opvo] at e
    split at e
    · rename_i u hu; cases e; simp [opv_eval h hu]
    · cases e
/-- `x[lo:hi]` of a slice value. -/
def cutV (A : Option Addr) (c size lo hi : Nat) : Value := .slice (if c = lo then A else A.map (·.add (lo * size))) (hi - lo) (c - lo)

def setFrom : Array Value → Nat → List Value → Array Value
  | cs, _, [] => cs
  | cs, i, v :: r => setFrom (cs.setIfInBounds i v) (i + 1) r
/-- 'Instr.fill' as the kernel reckons it. -/
def fillS (place : Nat → Option (Nat × Nat)) (cells : Array Value) : List (Nat × Value) → Option (Array Value)
  | [] => some cells
  | (i, v) :: rest => match place i with
    | none => none
    | some (off, size) => match Nat.beq v.cells.size size, Nat.ble (off + v.cells.size) cells.size with
      | true, true => fillS place (setFrom cells off v.cells.toList) rest
      | _, _ => none
def lz (P : Program) (L : Fra) (o : Oper) (ann : Option Value) : Option (Value × (World → Prop)) :=
  match o.op with
  | .move x => match opv L x with
    | some v => some (v, fun _ => True)
    | none => none
  | .assign x => match opv L x with
    | some v => some (v, fun _ => True)
    | none => none
  | .pick c x y => match opv L c with
    | some (.bool true) => match opv L x with
      | some v => some (v, fun _ => True)
      | none => none
    | some (.bool false) => match opv L y with
      | some v => some (v, fun _ => True)
      | none => none
    | _ => none
  | .nilCheck x => match opv L x with
    | some (.pointer (some a)) => some (.pointer (some a), fun _ => True)
    | some (.func (.func f) b c) => some (.func (.func f) b c, fun _ => True)
    | _ => none
  | .binOp op t x y _ => match opv L x, opv L y with
    | some (.slice A _ _), some (.slice none _ _) => match op, P.underlying t with
      | .eql, some (.slice _) => some (.bool A.isNone, fun _ => True)
      | .neq, some (.slice _) => some (.bool (!A.isNone), fun _ => True)
      | _, _ => none
    | some u, some v => match binV op u v with
      | some (r, p) => some (r, fun _ => p)
      | none => none
    | _, _ => none
  | .unOp op _ x => match op, opv L x with
    | .not, some (.bool b) => some (.bool (!b), fun _ => True)
    | .neg, some (.int k n) => some (.int k (k.wrap (0 - n)), fun _ => True)
    | _, _ => none
  | .convert s t x => match P.underlying s, P.underlying t, opv L x with
    | some (.int _), some (.int k), some (.int _ n) => some (.int k (k.wrap n), fun _ => True)
    | some .string, some .string, some (.string b) => some (.string b, fun _ => True)
    | _, _, _ => none
  | .fieldAddr s x f => match opv L x, P.underlying s with
    | some (.pointer (some ad)), some (.struct fs) => match fs[f]? with
      | some fd => match size? P fd.type with
        | some (_ + 1) => some (.pointer (some (ad.add fd.offset)), fun _ => True)
        | _ => none
      | none => none
    | _, _ => none
  | .field s x f => match opv L x, P.underlying s with
    | some (.agg cs), some (.struct fs) => match fs[f]? with
      | some fd => match isAgg? P fd.type, size? P fd.type with
        | some false, _ => match cs[fd.offset]? with
          | some v => some (v, fun _ => True)
          | none => none
        | some true, some m => some (.agg (cs.extract fd.offset (fd.offset + m)), fun _ => True)
        | _, _ => none
      | none => none
    | _, _ => none
  | .indexAddr t x i => match opv L x, opv L i, P.underlying t with
    | some (.slice A m _), some (.int _ i), some (.slice e) => match size? P e with
      | some s => some (.pointer (some ((A.getD ad0).add (i.toNat * s))), fun _ => A.isSome = true ∧ 0 ≤ i ∧ i < (m : Int))
      | none => none
    | some (.pointer (some ad)), some (.int _ i), some (.array m e) => match size? P e with
      | some s => some (.pointer (some (ad.add (i.toNat * s))), fun _ => 0 ≤ i ∧ i < (m : Int))
      | none => none
    | _, _, _ => none
  | .index t x i => match opv L x, opv L i, P.underlying t with
    | some (.string s), some (.int _ i), some .string => some (.int .u8 (bt (bl s) i), fun _ => 0 ≤ i ∧ i < ((bl s).length : Int))
    | _, _, _ => none
  | .slice t x lo hi mx => match mx, opv L x, opvo L lo, opvo L hi, P.underlying t with
    | none, some (.string s), some lo, some hi, some .string => match lowOf lo, highOf hi (bl s).length with
      | some l, some h => some (str (((bl s).take h.toNat).drop l.toNat), fun _ => 0 ≤ l ∧ l ≤ h ∧ h ≤ ((bl s).length : Int))
      | _, _ => none
    | none, some (.slice A m c), some lo, some hi, some (.slice e) => match lowOf lo, highOf hi m, size? P e with
      | some l, some h, some s => some (cutV A c s l.toNat h.toNat, fun _ => 0 ≤ l ∧ l ≤ h ∧ h ≤ (c : Int))
      | _, _, _ => none
    | _, _, _, _, _ => none
  | .load t x => match opv L x, ann, isAgg? P t with
    | some (.pointer (some ad)), some v, some false => some (v, fun w => w.cell? ad = some v)
    | some (.pointer (some ad)), some (.agg cs), some true => match size? P t with
      | some m => if m = cs.size then some (.agg cs, fun w => CellsAt w ad cs.toList 0) else none
      | none => none
    | _, _, _ => none
  | .extract t i => match opv L t with
    | some (.tuple vs) => match vs[i]? with
      | some v => some (v, fun _ => True)
      | none => none
    | _ => none
  | .makeFunc fn first captured => match opvs L first.toList, opvs L captured.toList with
    | some f, some c => some (.func fn f.toArray c.toArray, fun _ => True)
    | _, _ => none
  | .makeInterface t x => none
  | .build t parts => match P.underlying t, P.info? t, opvs L (parts.toList.map (·.2)) with
    | some (.struct fs), some i, some vs => match i.zero with
      | some z => match fillS (fun j => (fs[j]?).bind fun f => (size? P f.type).map fun m => (f.offset, m)) z.cells ((parts.toList.map (·.1)).zip vs) with
        | some cs => if fs.all (fun f => (size? P f.type).isSome) then some (.agg cs, fun _ => True) else none
        | none => none
      | none => none
    | some (.array _ e), some i, some vs => match i.zero, size? P e with
      | some z, some s => match fillS (fun j => some (j * s, s)) z.cells ((parts.toList.map (·.1)).zip vs) with
        | some cs => some (.agg cs, fun _ => True)
        | none => none
      | _, _ => none
    | _, _, _ => none
  | .call c => match c.callee with
    | .builtin .len => match c.args.toList, c.argTypes.toList with
      | [x], [t] => match opv L x, P.underlying t with
        | some (.slice _ m _), some (.slice _) => some (.int .i64 m, fun _ => True)
        | some (.string s), some .string => some (.int .i64 (bl s).length, fun _ => True)
        | _, _ => none
      | _, _ => none
    | .builtin .cap => match c.args.toList, c.argTypes.toList with
      | [x], [t] => match opv L x, P.underlying t with
        | some (.slice _ _ m), some (.slice _) => some (.int .i64 m, fun _ => True)
        | _, _ => none
      | _, _ => none
    | .builtin .min => match opvs L c.args.toList with
      | some [.int k x, .int _ y] => some (.int k (if y < x then y else x), fun _ => True)
      | _ => none
    | .builtin .max => match opvs L c.args.toList with
      | some [.int k x, .int _ y] => some (.int k (if x < y then y else x), fun _ => True)
      | _ => none
    | _ => none
  | _ => none
end Go.Proofs.Ytnhnipdanpcbeaa.Eng
