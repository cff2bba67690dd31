/- The engine, part 1: what is known of the heap and of a frame; operations that turn nothing. -/
import Derived.OrdersHeld
import Derived.Laws.Sem
import Derived.Laws.World
import Derived.KernelRfl
namespace Go.Proofs.Ytnhnipdanpcbeaa.Eng
open Go

abbrev Imm := Nat → Option Obj
abbrev Seg := List (Nat × Obj)
abbrev Fra := List (Nat × Value)

def ImmLe (I J : Imm) : Prop := ∀ b o, I b = some o → J b = some o
theorem ImmLe.refl (I : Imm) : ImmLe I I := fun _ _ h => h
theorem ImmLe.trans {I J K : Imm} (h : ImmLe I J) (k : ImmLe J K) : ImmLe I K := fun b o e => k b o (h b o e)

structure Sat (E w : World) (I : Imm) (Ms : List Seg) : Prop where
  os : w.os = E.os
  tape : w.tape = E.tape
  output : w.output = E.output
  imm : ∀ b o, I b = some o → w.heap[b]? = some o
  mt : ∀ b o, (b, o) ∈ Ms.flatten → w.heap[b]? = some o ∧ I b = none
  nd : (Ms.flatten.map Prod.fst).Nodup

structure FrOk (a : Act) (n : Nat) (L : Fra) : Prop where
  df : a.defers = []
  sz : a.tmps.size = n
  ok : ∀ t v, (t, v) ∈ L → a.tmps[t]? = some v

def At (E : World) (n : Nat) (L : Fra) (I : Imm) (Ms : List Seg) (R : Act → World → Prop) : Prop :=
  ∀ a w, FrOk a n L → Sat E w I Ms → R a w

/-! ### a world that has only been drawn from -/
theorem Sat.drew {E w : World} {I : Imm} {Ms : List Seg} (h : Sat E w I Ms) (k : Nat) : Sat E { w with drawn := k } I Ms :=
  ⟨h.os, h.tape, h.output, h.imm, h.mt, h.nd⟩

/-! ### slots -/
def look : Fra → Nat → Option Value
  | [], _ => none
  | (k, v) :: r, t => match Nat.beq k t with
    | true => some v
    | false => look r t
def fcut : Fra → Nat → Fra
  | [], _ => []
  | (k, v) :: r, t => match Nat.beq k t with
    | true => fcut r t
    | false => (k, v) :: fcut r t
def fput (L : Fra) (d : Option Nat) (v : Value) : Fra := match d with
  | none => L
  | some d => (d, v) :: fcut L d
def keepL : List Nat → Fra → Fra
  | [], _ => []
  | k :: ks, L => match look L k with
    | some v => (k, v) :: keepL ks L
    | none => keepL ks L
theorem look_mem : ∀ {L : Fra} {t : Nat} {v : Value}, look L t = some v → (t, v) ∈ L
  | (k, u) :: r, t, v, h => by
    unfold look at h
    cases e : Nat.beq k t with
    | true => rw [e] at h; cases h; rw [Nat.eq_of_beq_eq_true e]; exact .head _
    | false => rw [e] at h; exact .tail _ (look_mem h)
theorem fcut_mem : ∀ {L : Fra} {d t : Nat} {v : Value}, (t, v) ∈ fcut L d → (t, v) ∈ L ∧ t ≠ d
  | (k, u) :: r, d, t, v, h => by
    unfold fcut at h
    cases e : Nat.beq k d with
    | true => rw [e] at h; exact ⟨.tail _ (fcut_mem h).1, (fcut_mem h).2⟩
    | false =>
      rw [e] at h
      cases h with
      | head => exact ⟨.head _, Nat.ne_of_beq_eq_false e⟩
      | tail _ h => exact ⟨.tail _ (fcut_mem h).1, (fcut_mem h).2⟩
theorem keepL_mem : ∀ {ks : List Nat} {L : Fra} {t : Nat} {v : Value}, (t, v) ∈ keepL ks L → (t, v) ∈ L
  | k :: ks, L, t, v, h => by
    unfold keepL at h
    cases e : look L k with
    | none => rw [e] at h; exact keepL_mem h
    | some u =>
      rw [e] at h
      cases h with
      | head => exact look_mem e
      | tail _ h => exact keepL_mem h
theorem FrOk.sub {a : Act} {n : Nat} {L L' : Fra} (h : FrOk a n L) (hs : ∀ t v, (t, v) ∈ L' → (t, v) ∈ L) : FrOk a n L' :=
  ⟨h.df, h.sz, fun t v m => h.ok t v (hs t v m)⟩
theorem FrOk.keep {a : Act} {n : Nat} {L : Fra} (h : FrOk a n L) (ks : List Nat) : FrOk a n (keepL ks L) := h.sub fun _ _ m => keepL_mem m
theorem FrOk.put {a : Act} {n : Nat} {L : Fra} (h : FrOk a n L) {d : Option Nat} (hd : ∀ k, d = some k → k < n) (v : Value) : FrOk (a.put d v) n (fput L d v) := by
  cases d with
  | none => exact h
  | some d =>
    refine ⟨h.df, by simp [Act.put, h.sz], fun t u m => ?_⟩
    simp only [fput, List.mem_cons, Prod.mk.injEq] at m
    have hdn := hd d rfl
    rcases m with ⟨rfl, rfl⟩ | m
    · simp [Act.put, Array.getElem?_setIfInBounds, h.sz, hdn]
    · obtain ⟨m, hne⟩ := fcut_mem m
      simp only [Act.put, Array.getElem?_setIfInBounds]
      rw [if_neg (fun e => hne e.symm)]
      exact h.ok t u m
def opv (L : Fra) : Operand → Option Value
  | .tmp t => look L t
  | .const v => some v
  | .global g => some (.pointer (some ⟨g, 0, none⟩))
  | .func f => some (.func (.func f) #[] #[])
theorem opv_eval {a : Act} {n : Nat} {L : Fra} (h : FrOk a n L) {x : Operand} {v : Value} (e : opv L x = some v) : a.eval x = v := by
  cases x with
  | tmp t =>
    have := h.ok t v (look_mem e)
    simp [Act.eval, Array.getD_eq_getD_getElem?, this]
  | const u => exact Option.some.inj e
  | global g => exact Option.some.inj e
  | func f => exact Option.some.inj e
def opvs (L : Fra) : List Operand → Option (List Value)
  | [] => some []
  | x :: r => match opv L x, opvs L r with
    | some v, some vs => some (v :: vs)
    | _, _ => none
theorem opvs_eval {a : Act} {n : Nat} {L : Fra} (h : FrOk a n L) : ∀ {xs : List Operand} {vs : List Value}, opvs L xs = some vs → xs.map a.eval = vs
  | [], vs, e => Option.some.inj e
  | x :: r, vs, e => by
    simp only [opvs] at e
    split at e
    · rename_i v vs' h1 h2
      cases e
      simp [opv_eval h h1, opvs_eval h h2]
    · cases e
end Go.Proofs.Ytnhnipdanpcbeaa.Eng
