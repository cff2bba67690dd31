/- The engine, part 3: what 'lz' says is what the operation does. -/
import Derived.Test.YtnhnipdanpcbeaaEng2
import Derived.Lib.SmallJoins
import Derived.Lib.Strings
namespace Go.Proofs.Ytnhnipdanpcbeaa.Eng
open Go

theorem run_underlying' {P : Program} {t : TypeId} {d : TypeDesc} (h : P.underlying t = some d) (w : World) : (underlying t).run P w = .ok d w := by
  simp [underlying, h]
theorem run_typeInfo' {P : Program} {t : TypeId} {i : TypeInfo} (h : P.info? t = some i) (w : World) : (typeInfo t).run P w = .ok i w := by
  simp [typeInfo, h]
theorem run_sizeOf' {P : Program} {t : TypeId} {m : Nat} (h : size? P t = some m) (w : World) : (sizeOf t).run P w = .ok m w := by
  unfold size? at h
  cases hi : P.info? t with
  | none => rw [hi] at h; cases h
  | some i => rw [hi] at h; cases h; simp [sizeOf, run_typeInfo' hi]
theorem run_isAgg' {P : Program} {t : TypeId} {b : Bool} (h : isAgg? P t = some b) (w : World) : (isAgg t).run P w = .ok b w := by
  unfold isAgg? at h
  cases hu : P.underlying t with
  | none => rw [hu] at h; cases h
  | some d =>
    rw [hu] at h
    unfold isAgg
    simp only [Sem.run_bind, run_underlying' hu, Result.andThen_ok]
    cases d <;> simp at h <;> subst h <;> rfl
theorem run_loadCellsFrom {P : Program} {ad : Addr} {w : World} : ∀ (l : List Value) (i : Nat) (acc : Array Value), CellsAt w ad l i →
    (loadCellsFrom ad i l.length acc).run P w = .ok (acc ++ l.toArray) w
  | [], i, acc, _ => by simp [loadCellsFrom]
  | v :: r, i, acc, h => by
    obtain ⟨h1, h2⟩ := h
    have := run_loadCellsFrom (P := P) r (i + 1) (acc.push v) h2
    simp only [List.length_cons, loadCellsFrom, Sem.run_bind, run_load, h1, Result.andThen_ok, this]
    simp
theorem run_loadVar_one {P : Program} {t : TypeId} {ad : Addr} {v : Value} {w : World} (h : isAgg? P t = some false) (hc : w.cell? ad = some v) :
    (loadVar t ad).run P w = .ok v w := by
  simp [loadVar, run_isAgg' h, hc]
theorem run_loadVar_agg {P : Program} {t : TypeId} {ad : Addr} {cs : Array Value} {w : World} (h : isAgg? P t = some true) (hs : size? P t = some cs.size)
    (hc : CellsAt w ad cs.toList 0) : (loadVar t ad).run P w = .ok (.agg cs) w := by
  have := run_loadCellsFrom (P := P) cs.toList 0 #[] hc
  simp only [Array.length_toList] at this
  simp [loadVar, run_isAgg' h, run_sizeOf' hs, loadCells, this]

theorem toList_bl (s : ByteArray) : s.toList = bl s := by
  exact ByteArray.toList_eq s
theorem bl_append (a b : ByteArray) : bl (a ++ b) = bl a ++ bl b := Go.Joins.data_append a b
theorem bl_length (s : ByteArray) : (bl s).length = s.size := by rw [bl, Array.length_toList]; rfl
theorem str_bl (s : ByteArray) : Value.string s = str (bl s) := by
  cases s; rfl
theorem str_of {s : ByteArray} {l : List UInt8} (h : bl s = l) : Value.string s = str l := by rw [str_bl, h]
theorem bl_extract (s : ByteArray) (i j : Nat) : bl (s.extract i j) = ((bl s).take j).drop i := by
  show (s.extract i j).data.toList = _
  rw [Lib.extract_data, bl, List.drop_take]

theorem binV_sound {P : Program} {op : BinOp} {t : TypeId} {x y r : Value} {p : Prop} {w : World} (h : binV op x y = some (r, p)) (hp : p) :
    (binOp op t x y).run P w = .ok r w := by
  unfold binV at h
  split at h
  · rename_i k a k' b
    split at h
    · simp only [shOp, Option.some.injEq, Prod.mk.injEq] at h
      obtain ⟨rfl, rfl⟩ := h
      simp [binOp, Op.shift, Int.not_lt.2 hp]
    · simp only [shOp, Option.some.injEq, Prod.mk.injEq] at h
      obtain ⟨rfl, rfl⟩ := h
      simp [binOp, Op.shift, Int.not_lt.2 hp]
    · rename_i h1 h2
      split at h
      · rename_i hk
        subst hk
        cases op <;> simp only [intOp, Option.some.injEq, Prod.mk.injEq, reduceCtorEq] at h <;> (try exact absurd rfl h1) <;> (try exact absurd rfl h2) <;>
          (obtain ⟨rfl, rfl⟩ := h; simp [binOp, Op.intArith, Op.intDiv, Op.intBits, Op.intCmp, bitsV, hp])
      · cases h
  · rename_i a b
    cases op <;> simp only [strOp, Option.some.injEq, Prod.mk.injEq, reduceCtorEq] at h <;> obtain ⟨rfl, rfl⟩ := h
    case add =>
      simp only [binOp, Op.stringOp]
      rw [if_neg]
      · simp only [Sem.run_pure]
        rw [str_of (bl_append a b)]
      · rw [bl_length, bl_length] at hp
        simp only [IntKind.max, IntKind.signed, IntKind.bits]
        simp only [if_true]
        omega
    all_goals simp [binOp, Op.stringOp, toList_bl]
  · cases h
theorem binV_guard {P : Program} {op : BinOp} {t : TypeId} {X Y : Operand} {x y r : Value} {p : Prop} {w : World} (h : binV op x y = some (r, p)) :
    (eqGuard op t X Y x y).run P w = .ok () w := by
  unfold binV at h
  split at h
  · cases op <;> simp [eqGuard]
  · cases op <;> simp [eqGuard]
  · cases h

theorem run_v {P : Program} {s : Sem Value} {v : Value} {w w' : World} (h : s.run P w = .ok v w') : (do let x ← s; pure (Next.value x) : Sem Next).run P w = .ok (.value v) w' := by
  simp [h]
theorem run_asIntOf {P : Program} {k : IntKind} {i : Int} {w : World} : (asIntOf (.int k i)).run P w = .ok (k, i) w := rfl
theorem opv_some {a : Act} {n : Nat} {L : Fra} (h : FrOk a n L) {x : Operand} : ∀ {v : Value}, opv L x = some v → a.eval x = v := fun e => opv_eval h e

theorem lz_unOp {P : Program} {L : Fra} {o : Oper} {ann : Option Value} {v : Value} {ob : World → Prop} {a : Act} {n : Nat} {w : World} {op : UnOp} {t : TypeId} {x : Operand} (hop : o.op = .unOp op t x)
    (h : lz P L o ann = some (v, ob)) (ha : FrOk a n L) : (execOp a.eval o).run P w = .ok (.value v) w := by
  simp only [lz, hop] at h
  split at h
  · rename_i b hx
    cases h
    simp only [execOp, hop, opv_eval ha hx]
    exact run_v rfl
  · rename_i k m hx
    cases h
    simp only [execOp, hop, opv_eval ha hx]
    exact run_v rfl
  · cases h

theorem sliceBounds_run {P : Program} {isS : Bool} {len cap : Nat} {lo hi : Option Value} {l h : Int} {w : World} (hl : lowOf lo = some l) (hh : highOf hi len = some h)
    (h0 : 0 ≤ l) (h1 : l ≤ h) (h2 : h ≤ (cap : Int)) : (Instr.sliceBounds isS len cap lo hi none).run P w = .ok (l.toNat, h.toNat, cap) w := by
  have key : ∀ (k : IntKind) (i : Int) (y : Nat) (code : BoundsCode), 0 ≤ i → i ≤ (y : Int) → (Instr.sliceBound (.int k i) y code).run P w = .ok i.toNat w := by
    intro k i y code g0 g1
    simp [Instr.sliceBound, run_asIntOf, g0, g1]
  unfold Instr.sliceBounds
  have hh' : h = ((h.toNat : Nat) : Int) := by omega
  cases hi with
  | none =>
    simp only [highOf, Option.some.injEq] at hh
    cases lo with
    | none =>
      simp only [lowOf, Option.some.injEq] at hl
      subst hl; subst hh
      simp
    | some v =>
      cases v <;> simp only [lowOf, Option.some.injEq, reduceCtorEq] at hl
      subst hl; subst hh
      have := key ‹_› ‹_› len BoundsCode.sliceB h0 h1
      simp [this]
  | some u =>
    cases u <;> simp only [highOf, Option.some.injEq, reduceCtorEq] at hh
    subst hh
    rename_i k i
    have e1 := fun code => key k i cap code (by omega) h2
    cases lo with
    | none =>
      simp only [lowOf, Option.some.injEq] at hl
      subst hl
      simp [e1]
    | some v =>
      cases v <;> simp only [lowOf, Option.some.injEq, reduceCtorEq] at hl
      subst hl
      rename_i k' i'
      have e2 := key k' i' i.toNat BoundsCode.sliceB h0 (by omega)
      simp [e1, e2]
end Go.Proofs.Ytnhnipdanpcbeaa.Eng
