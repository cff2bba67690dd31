/- The engine, part 7: data in memory; variables in memory; calls. -/
import Derived.Test.YtnhnipdanpcbeaaEng6
namespace Go.Proofs.Ytnhnipdanpcbeaa.Eng
open Go

theorem add0 (a : Addr) : a.add 0 = a := by simp [Addr.add]
theorem add_block (a : Addr) (n : Nat) : (a.add n).block = a.block := by unfold Addr.add; split <;> rfl
theorem add_off (a : Addr) (n : Nat) : (a.add n).off = a.off + n := by unfold Addr.add; split <;> simp_all
theorem add_spot {a : Addr} (h : a.spot = none) (n : Nat) : (a.add n).spot = none := by unfold Addr.add; split <;> simp_all
theorem addr_ext {a b : Addr} (h1 : a.block = b.block) (h2 : a.off = b.off) (h3 : a.spot = b.spot) : a = b := by cases a; cases b; simp_all
theorem add_mk (b o n : Nat) : (⟨b, o, none⟩ : Addr).add n = ⟨b, o + n, none⟩ := addr_ext (add_block _ _) (add_off _ _) (add_spot rfl n)
theorem add_add {a : Addr} (h : a.spot = none) (m n : Nat) : (a.add m).add n = a.add (m + n) :=
  addr_ext (by simp [add_block]) (by simp [add_off]; omega) (by rw [add_spot (add_spot h m), add_spot h])

theorem cell?_of {w : World} {ad : Addr} {cs : Array Value} {e : TypeId} {fr : Nat × Nat} {v : Value} (h : w.heap[ad.block]? = some (.cells cs e fr)) (hs : ad.spot = none) (hv : cs[ad.off]? = some v) :
    w.cell? ad = some v := by
  unfold World.cell?
  rw [h]
  simp [hs, hv]
def ICell (I : Imm) (ad : Addr) (v : Value) : Prop := ∃ cs e fr, I ad.block = some (.cells cs e fr) ∧ ad.spot = none ∧ cs[ad.off]? = some v
theorem ICell.mono {I J : Imm} {ad : Addr} {v : Value} (hi : ImmLe I J) (h : ICell I ad v) : ICell J ad v := by
  obtain ⟨cs, e, fr, h1, h2, h3⟩ := h
  exact ⟨cs, e, fr, hi _ _ h1, h2, h3⟩
theorem ICell.cell {E w : World} {I : Imm} {Ms : List Seg} {ad : Addr} {v : Value} (h : ICell I ad v) (hs : Sat E w I Ms) : w.cell? ad = some v := by
  obtain ⟨cs, e, fr, h1, h2, h3⟩ := h
  exact cell?_of (hs.imm _ _ h1) h2 h3
theorem Sat.seg {E w : World} {I : Imm} {Ms : List Seg} {s : Seg} (h : Sat E w I Ms) (hm : s ∈ Ms) {b : Nat} {o : Obj} (hb : (b, o) ∈ s) : w.heap[b]? = some o ∧ I b = none :=
  h.mt b o (List.mem_flatten.2 ⟨s, hm, hb⟩)
/-- A cell of a variable in memory. -/
theorem Sat.var {E w : World} {I : Imm} {Ms : List Seg} {k g : Nat} {cs : Array Value} {T : TypeId} {fr : Nat × Nat} (h : Sat E w I Ms) (hm : Ms[k]? = some [(g, .cells cs T fr)]) (j : Nat) {v : Value} (hv : cs[j]? = some v) :
    w.cell? ⟨g, j, none⟩ = some v :=
  cell?_of (ad := ⟨g, j, none⟩) (h.seg (List.mem_of_getElem? hm) (.head _)).1 rfl hv

/-! ### kinds of data -/
structure Kd (α : Type) where
  sz : Nat
  rep : Imm → α → List Value → Prop
  len : ∀ {I : Imm} {x : α} {cs : List Value}, rep I x cs → cs.length = sz
  mono : ∀ {I J : Imm} {x : α} {cs : List Value}, ImmLe I J → rep I x cs → rep J x cs
  oc : ∀ {I : Imm} {x : α} {cs : List Value}, rep I x cs → cs.all Value.oneCell' = true
def Kd.one {α : Type} (enc : α → Value) (h : ∀ x, (enc x).oneCell' = true) : Kd α := ⟨1, fun _ x cs => cs = [enc x], fun h => by rw [h]; rfl, fun _ h => h, fun e => by rw [e]; simp [h]⟩
abbrev Kd.int (k : IntKind) : Kd Int := Kd.one (Value.int k) (fun _ => rfl)
abbrev Kd.bool : Kd Bool := Kd.one Value.bool (fun _ => rfl)
abbrev Kd.string : Kd (List UInt8) := Kd.one str (fun _ => rfl)

/-- `.slice A xs.length c` reads as xs. -/
def Rd {α : Type} (K : Kd α) (I : Imm) (A : Option Addr) (c : Nat) (xs : List α) : Prop :=
  xs.length ≤ c ∧ (0 < xs.length → (A.getD ad0).spot = none) ∧ (0 < xs.length → A.isSome = true) ∧
    ∀ j x, xs[j]? = some x → ∃ cs, K.rep I x cs ∧ ∀ i v, cs[i]? = some v → ICell I ((A.getD ad0).add (j * K.sz + i)) v
theorem Rd.mono {α : Type} {K : Kd α} {I J : Imm} {A : Option Addr} {c : Nat} {xs : List α} (h : Rd K I A c xs) (hi : ImmLe I J) : Rd K J A c xs := by
  obtain ⟨h1, h2, h3, h4⟩ := h
  refine ⟨h1, h2, h3, fun j x hx => ?_⟩
  obtain ⟨cs, hc, hv⟩ := h4 j x hx
  exact ⟨cs, K.mono hi hc, fun i v e => (hv i v e).mono hi⟩
theorem Rd.nil {α : Type} (K : Kd α) (I : Imm) : Rd K I none 0 ([] : List α) := ⟨Nat.le_refl _, fun _ => rfl, fun h => absurd h (Nat.lt_irrefl 0), fun j x h => by simp at h⟩
theorem Rd.cap {α : Type} {K : Kd α} {I : Imm} {A : Option Addr} {c : Nat} {xs : List α} (h : Rd K I A c xs) : xs.length ≤ c := h.1
theorem Rd.ne {α : Type} {K : Kd α} {I : Imm} {A : Option Addr} {c : Nat} {xs : List α} (h : Rd K I A c xs) (i : Int) (h0 : 0 ≤ i) (h1 : i < (xs.length : Int)) : A.isSome = true := h.2.2.1 (by omega)
def Kd.slice {α : Type} (K : Kd α) : Kd (List α) :=
  ⟨1, fun I xs cs => ∃ A c, cs = [.slice A xs.length c] ∧ Rd K I A c xs, fun ⟨_, _, h, _⟩ => by rw [h]; rfl, fun hi ⟨A, c, h, hr⟩ => ⟨A, c, h, hr.mono hi⟩, fun ⟨_, _, h, _⟩ => by rw [h]; rfl⟩
def rdA {α : Type} (d : α) (xs : List α) (i : Int) : α := xs.getD i.toNat d
abbrev rd (xs : List Int) (i : Int) : Int := rdA 0 xs i
theorem rdA_some {α : Type} (d : α) (xs : List α) (i : Int) (h0 : 0 ≤ i) (h1 : i < (xs.length : Int)) : xs[i.toNat]? = some (rdA d xs i) := by
  have : i.toNat < xs.length := by omega
  simp [rdA, List.getElem?_eq_getElem this]
theorem Rd.elem {α : Type} {K : Kd α} {I : Imm} {A : Option Addr} {c : Nat} {xs : List α} (h : Rd K I A c xs) (d : α) (i : Int) (h0 : 0 ≤ i) (h1 : i < (xs.length : Int)) :
    ∃ cs, K.rep I (rdA d xs i) cs ∧ ∀ j v, cs[j]? = some v → ∀ {E w : World} {Ms : List Seg}, Sat E w I Ms → w.cell? (((A.getD ad0).add (i.toNat * K.sz)).add j) = some v := by
  obtain ⟨cs, hc, hv⟩ := h.2.2.2 _ _ (rdA_some d xs i h0 h1)
  exact ⟨cs, hc, fun j v e E w Ms hs => by rw [add_add (h.2.1 (by omega))]; exact (hv j v e).cell hs⟩
theorem Rd.one {α : Type} {enc : α → Value} {he : ∀ x, (enc x).oneCell' = true} {I : Imm} {A : Option Addr} {c : Nat} {xs : List α} (h : Rd (Kd.one enc he) I A c xs) (d : α) (i : Int) (h0 : 0 ≤ i) (h1 : i < (xs.length : Int))
    {E w : World} {Ms : List Seg} (hs : Sat E w I Ms) : w.cell? ((A.getD ad0).add (i.toNat * 1)) = some (enc (rdA d xs i)) := by
  obtain ⟨cs, hc, hv⟩ := h.elem d i h0 h1
  have := hv 0 (enc (rdA d xs i)) (by rw [show cs = [enc (rdA d xs i)] from hc]; rfl) hs
  rwa [add0] at this
/-- A cut of what reads. -/
theorem Rd.cut {α : Type} {K : Kd α} {I : Imm} {A : Option Addr} {c : Nat} {xs : List α} (h : Rd K I A c xs) (lo hi : Nat) (h1 : lo ≤ hi) (h2 : hi ≤ xs.length) :
    ∃ A', cutV A c K.sz lo hi = .slice A' ((xs.take hi).drop lo).length (c - lo) ∧ Rd K I A' (c - lo) ((xs.take hi).drop lo) := by
  obtain ⟨g1, g2, g3, g4⟩ := h
  have hl : ((xs.take hi).drop lo).length = hi - lo := by simp; omega
  refine ⟨if c = lo then A else A.map (·.add (lo * K.sz)), by rw [cutV, hl], ?_, ?_, ?_, ?_⟩
  · rw [hl]; omega
  · intro hp
    rw [hl] at hp
    have g2 := g2 (by omega)
    split
    · exact g2
    · cases A with
      | none => rfl
      | some a => exact add_spot g2 _
  · intro hp
    rw [hl] at hp
    have := g3 (by omega)
    split
    · exact this
    · simpa using this
  · intro j x hx
    have hj : j < hi - lo := by rw [← hl]; exact (List.getElem?_eq_some_iff.1 hx).1
    have hx' : xs[lo + j]? = Option.some x := by
      rw [List.getElem?_drop, List.getElem?_take, if_pos (by omega)] at hx
      exact hx
    obtain ⟨cs, hc, hv⟩ := g4 _ _ hx'
    refine ⟨cs, hc, fun i v e => ?_⟩
    have := hv i v e
    rw [if_neg (by omega)]
    have hA := g3 (by omega)
    obtain ⟨a, rfl⟩ := Option.isSome_iff_exists.1 hA
    have g2 := g2 (by omega)
    simp only [Option.map_some, Option.getD_some] at this g2 ⊢
    rw [add_add g2]
    rwa [show lo * K.sz + (j * K.sz + i) = (lo + j) * K.sz + i by rw [Nat.add_mul]; omega]

/-! ### rows of the call's own -/
def Own {α : Type} (K : Kd α) (e : TypeId) (I : Imm) (A : Option Addr) (c : Nat) (xs : List α) (s : Seg) : Prop :=
  (A = none ∧ c = 0 ∧ xs = [] ∧ s = []) ∨
  ∃ b cells fr, A = some ⟨b, 0, none⟩ ∧ s = [(b, .cells cells e fr)] ∧ fr.2 ≤ fr.1 ∧ xs.length ≤ c ∧ cells.size = c * K.sz ∧
    ∀ j x, xs[j]? = some x → ∃ cs, K.rep I x cs ∧ ∀ i v, cs[i]? = some v → cells[j * K.sz + i]? = some v
theorem Own.mono {α : Type} {K : Kd α} {e : TypeId} {I J : Imm} {A : Option Addr} {c : Nat} {xs : List α} {s : Seg} (h : Own K e I A c xs s) (hi : ImmLe I J) : Own K e J A c xs s := by
  rcases h with h | ⟨b, cells, fr, h1, h2, hf, h3, h4, h5⟩
  · exact .inl h
  · refine .inr ⟨b, cells, fr, h1, h2, hf, h3, h4, fun j x hx => ?_⟩
    obtain ⟨cs, hc, hv⟩ := h5 j x hx
    exact ⟨cs, K.mono hi hc, hv⟩
theorem Own.nil {α : Type} (K : Kd α) (e : TypeId) (I : Imm) : Own K e I none 0 ([] : List α) [] := .inl ⟨rfl, rfl, rfl, rfl⟩
theorem Own.cap {α : Type} {K : Kd α} {e : TypeId} {I : Imm} {A : Option Addr} {c : Nat} {xs : List α} {s : Seg} (h : Own K e I A c xs s) : xs.length ≤ c := by
  rcases h with ⟨_, rfl, rfl, _⟩ | ⟨b, cells, fr, h1, h2, hf, h3, h4, h5⟩
  · exact Nat.le_refl _
  · exact h3
theorem Own.ne {α : Type} {K : Kd α} {e : TypeId} {I : Imm} {A : Option Addr} {c : Nat} {xs : List α} {s : Seg} (h : Own K e I A c xs s) (i : Int) (h0 : 0 ≤ i) (h1 : i < (xs.length : Int)) : A.isSome = true := by
  rcases h with ⟨_, _, rfl, _⟩ | ⟨b, cells, fr, rfl, _⟩
  · simp at h1; omega
  · rfl
def SegIn (s : Seg) (I : Imm) : Prop := ∀ b o, (b, o) ∈ s → I b = some o
theorem Own.rd {α : Type} {K : Kd α} {e : TypeId} {I J : Imm} {A : Option Addr} {c : Nat} {xs : List α} {s : Seg} (h : Own K e I A c xs s) (hi : ImmLe I J) (hs : SegIn s J) : Rd K J A c xs := by
  rcases h.mono hi with ⟨rfl, rfl, rfl, rfl⟩ | ⟨b, cells, fr, rfl, rfl, hf, h3, h4, h5⟩
  · exact Rd.nil K J
  · refine ⟨h3, fun _ => rfl, fun _ => rfl, fun j x hx => ?_⟩
    obtain ⟨cs, hc, hv⟩ := h5 j x hx
    refine ⟨cs, hc, fun i v ev => ?_⟩
    simp only [Option.getD_some, add_mk, Nat.zero_add]
    exact ⟨cells, e, fr, hs b _ (.head _), rfl, hv i v ev⟩
theorem Own.elem {α : Type} {K : Kd α} {e : TypeId} {I : Imm} {A : Option Addr} {c : Nat} {xs : List α} {s : Seg} (h : Own K e I A c xs s) (d : α) (i : Int) (h0 : 0 ≤ i) (h1 : i < (xs.length : Int)) :
    ∃ cs, K.rep I (rdA d xs i) cs ∧ ∀ j v, cs[j]? = some v → ∀ {E w : World} {Ms : List Seg} {k : Nat}, Sat E w I Ms → Ms[k]? = some s → w.cell? (((A.getD ad0).add (i.toNat * K.sz)).add j) = some v := by
  rcases h with ⟨_, _, rfl, _⟩ | ⟨b, cells, fr, rfl, rfl, hf, h3, h4, h5⟩
  · simp at h1; omega
  · obtain ⟨cs, hc, hv⟩ := h5 _ _ (rdA_some d xs i h0 h1)
    refine ⟨cs, hc, fun j v ev E w Ms k hs hm => ?_⟩
    simp only [Option.getD_some, add_mk, Nat.zero_add]
    exact hs.var hm _ (hv j v ev)
theorem Own.one {α : Type} {enc : α → Value} {he : ∀ x, (enc x).oneCell' = true} {e : TypeId} {I : Imm} {A : Option Addr} {c : Nat} {xs : List α} {s : Seg} (h : Own (Kd.one enc he) e I A c xs s) (d : α) (i : Int) (h0 : 0 ≤ i) (h1 : i < (xs.length : Int))
    {E w : World} {Ms : List Seg} {k : Nat} (hs : Sat E w I Ms) (hm : Ms[k]? = some s) : w.cell? ((A.getD ad0).add (i.toNat * 1)) = some (enc (rdA d xs i)) := by
  obtain ⟨cs, hc, hv⟩ := h.elem d i h0 h1
  have := hv 0 (enc (rdA d xs i)) (by rw [show cs = [enc (rdA d xs i)] from hc]; rfl) hs hm
  rwa [add0] at this

/-! ### what becomes of the heap -/
section heap
variable {E w : World} {I : Imm} {Ms : List Seg}
theorem Sat.lt (h : Sat E w I Ms) {b : Nat} {o : Obj} (hb : (b, o) ∈ Ms.flatten) : b < w.heap.size := (Array.getElem?_eq_some_iff.1 (h.mt b o hb).1).1
theorem Sat.push (h : Sat E w I Ms) (o : Obj) : Sat E { w with heap := w.heap.push o } I ([(w.heap.size, o)] :: Ms) := by
  have hold : ∀ b u, w.heap[b]? = some u → (w.heap.push o)[b]? = some u := fun b u hb => by
    have := (Array.getElem?_eq_some_iff.1 hb).1
    rw [Array.getElem?_push, if_neg (by omega)]
    exact hb
  refine ⟨h.os, h.tape, h.output, fun b u hb => hold b u (h.imm b u hb), fun b u hb => ?_, ?_⟩
  · simp only [List.flatten_cons, List.singleton_append, List.mem_cons, Prod.mk.injEq] at hb
    rcases hb with ⟨rfl, rfl⟩ | hb
    · refine ⟨by simp, ?_⟩
      cases hi : I w.heap.size with
      | none => rfl
      | some x => have := (Array.getElem?_eq_some_iff.1 (h.imm _ _ hi)).1; omega
    · exact ⟨hold b u (h.mt b u hb).1, (h.mt b u hb).2⟩
  · simp only [List.flatten_cons, List.singleton_append, List.map_cons, List.nodup_cons]
    refine ⟨fun hm => ?_, h.nd⟩
    obtain ⟨⟨b, u⟩, hb, e⟩ := List.mem_map.1 hm
    have := h.lt hb
    simp only at e
    omega
theorem Sat.tail (h : Sat E w I Ms) {s : Seg} {Mr : List Seg} (hp : Ms.Perm (s :: Mr)) : Sat E w I Mr := by
  have h' := h.perm hp
  refine ⟨h.os, h.tape, h.output, h.imm, fun b o hb => h'.mt b o (by simp [hb]), ?_⟩
  have := h'.nd
  simp only [List.flatten_cons, List.map_append] at this
  exact (List.nodup_append.1 this).2.1
theorem perm_at {s : Seg} : ∀ {Ms : List Seg} {k : Nat}, Ms[k]? = some s → Ms.Perm (s :: Ms.eraseIdx k)
  | x :: Ms, 0, h => by simp at h; subst h; exact List.Perm.refl _
  | x :: Ms, k + 1, h => by
    have ih := perm_at (s := s) (Ms := Ms) (k := k) (by simpa using h)
    exact (ih.cons x).trans (List.Perm.swap s x _)
  | [], k, h => by simp at h
theorem perm_set {s s' : Seg} : ∀ {Ms : List Seg} {k : Nat}, Ms[k]? = some s → (Ms.set k s').Perm (s' :: Ms.eraseIdx k)
  | x :: Ms, 0, h => by simp
  | x :: Ms, k + 1, h => by
    have ih := perm_set (s := s) (s' := s') (Ms := Ms) (k := k) (by simpa using h)
    exact (ih.cons x).trans (List.Perm.swap s' x _)
  | [], k, h => by simp at h
/-- One block's object is exchanged. -/
theorem Sat.setObj (h : Sat E w I Ms) {k b : Nat} {o o' : Obj} (hm : Ms[k]? = some [(b, o)]) {w' : World} (hos : w'.os = w.os) (ht : w'.tape = w.tape) (hou : w'.output = w.output)
    (hb : w'.heap[b]? = some o') (hne : ∀ c, c ≠ b → w'.heap[c]? = w.heap[c]?) : Sat E w' I (Ms.set k [(b, o')]) := by
  have h1 := h.perm (perm_at hm)
  have hb0 : w.heap[b]? = some o ∧ I b = none := h1.mt b o (by simp)
  refine Sat.perm (perm_set hm).symm ⟨hos.trans h.os, ht.trans h.tape, hou.trans h.output, fun c u hc => ?_, fun c u hc => ?_, ?_⟩
  · have : c ≠ b := fun e => by subst e; rw [hb0.2] at hc; cases hc
    rw [hne c this]
    exact h.imm c u hc
  · simp only [List.flatten_cons, List.singleton_append, List.mem_cons, Prod.mk.injEq] at hc
    rcases hc with ⟨rfl, rfl⟩ | hc
    · exact ⟨hb, hb0.2⟩
    · have hnd := h1.nd
      simp only [List.flatten_cons, List.singleton_append, List.map_cons, List.nodup_cons] at hnd
      have : c ≠ b := fun e => hnd.1 (List.mem_map.2 ⟨(c, u), hc, e⟩)
      rw [hne c this]
      exact h1.mt c u (by simp [hc])
  · simpa using h1.nd
/-- A segment becomes memory that nobody turns any more. -/
theorem Sat.freeze (h : Sat E w I Ms) {k : Nat} {s : Seg} (hm : Ms[k]? = some s) : ∃ J, ImmLe I J ∧ SegIn s J ∧ Sat E w J (Ms.eraseIdx k) := by
  have h1 := h.perm (perm_at hm)
  have hnd := h1.nd
  simp only [List.flatten_cons, List.map_append] at hnd
  obtain ⟨n1, n2, n3⟩ := List.nodup_append.1 hnd
  have hin : ∀ b o, (b, o) ∈ s → s.lookup b = some o := by
    clear h h1 hnd n2 n3 hm
    intro b o hb
    induction s with
    | nil => cases hb
    | cons p s ih =>
      obtain ⟨c, u⟩ := p
      simp only [List.map_cons, List.nodup_cons] at n1
      rcases List.mem_cons.1 hb with hb | hb
      · cases hb; simp [List.lookup]
      · have : (b == c) = false := by
          simp only [beq_eq_false_iff_ne]
          exact fun e => n1.1 (List.mem_map.2 ⟨(b, o), hb, e⟩)
        simp only [List.lookup, this]
        exact ih n1.2 hb
  have hout : ∀ b o, s.lookup b = some o → (b, o) ∈ s := by
    clear h h1 hnd n1 n2 n3 hm hin
    intro b o hb
    induction s with
    | nil => cases hb
    | cons p s ih =>
      obtain ⟨c, u⟩ := p
      simp only [List.lookup] at hb
      split at hb
      · rename_i e; cases hb; rw [beq_iff_eq] at e; subst e; exact .head _
      · exact .tail _ (ih hb)
  refine ⟨fun b => match s.lookup b with | some o => some o | none => I b, fun b o hb => ?_, fun b o hb => ?_, h.os, h.tape, h.output, fun b o hb => ?_, fun b o hb => ?_, n2⟩
  · show (match s.lookup b with | some o => some o | none => I b) = some o
    cases e : s.lookup b with
    | none => exact hb
    | some u =>
      have := (h1.mt b u (by simp [hout b u e])).2
      rw [this] at hb; cases hb
  · show (match s.lookup b with | some o => some o | none => I b) = some o
    rw [hin b o hb]
  · replace hb : (match s.lookup b with | some o => some o | none => I b) = some o := hb
    cases e : s.lookup b with
    | none => rw [e] at hb; exact h.imm b o hb
    | some u =>
      rw [e] at hb; cases hb
      exact (h1.mt b o (by simp [hout b o e])).1
  · have h2 := h1.mt b o (by simp only [List.flatten_cons, List.mem_append]; exact .inr hb)
    refine ⟨h2.1, ?_⟩
    show (match s.lookup b with | some o => some o | none => I b) = none
    cases e : s.lookup b with
    | none => exact h2.2
    | some u => exact (n3 b (List.mem_map.2 ⟨(b, u), hout b u e, rfl⟩) b (List.mem_map.2 ⟨(b, o), hb, rfl⟩) rfl).elim
end heap
end Go.Proofs.Ytnhnipdanpcbeaa.Eng
