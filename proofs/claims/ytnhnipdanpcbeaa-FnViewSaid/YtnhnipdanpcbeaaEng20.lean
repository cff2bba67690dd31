/- The engine, part 20: rows of the call's own whose elements hold rows of the call's own. -/
import Derived.Test.YtnhnipdanpcbeaaEng18
namespace Go.Proofs.Ytnhnipdanpcbeaa.Eng
open Go

def Kd.raw (m : Nat) : Kd (List Value) where
  sz := m
  rep := fun _ x cs => cs = x ∧ x.length = m ∧ x.all Value.oneCell' = true
  len := by rintro I x cs ⟨rfl, h, _⟩; exact h
  mono := fun _ h => h
  oc := by rintro I x cs ⟨rfl, _, h⟩; exact h
/-- An element α with one row of β in it: its cells, where that row is at A, c. -/
structure DK (α β : Type) where
  sz : Nat
  q : Nat
  K : Kd β
  ei : TypeId
  get : α → List β
  enc : α → Option Addr → Nat → List Value
  kd : Kd α
  hsz : kd.sz = sz
  hlen : ∀ x A c, (enc x A c).length = sz
  hoc : ∀ x A c, (enc x A c).all Value.oneCell' = true
  hdown : ∀ {I : Imm} {x : α} {A : Option Addr} {c : Nat}, Rd K I A c (get x) → kd.rep I x (enc x A c)
def DEl {α β : Type} (D : DK α β) (I : Imm) (x : α) (h : List Value) (s : Seg) : Prop := ∃ A c, h = D.enc x A c ∧ Own D.K D.ei I A c (D.get x) s
def DRel {α β : Type} (D : DK α β) (I : Imm) : List α → List (List Value) → List Seg → Prop
  | [], [], [] => True
  | x :: xs, h :: hs, s :: ss => DEl D I x h s ∧ DRel D I xs hs ss
  | _, _, _ => False
theorem DEl.mono {α β : Type} {D : DK α β} {I J : Imm} {x : α} {h : List Value} {s : Seg} (hd : DEl D I x h s) (hi : ImmLe I J) : DEl D J x h s := by
  obtain ⟨A, c, e, ho⟩ := hd
  exact ⟨A, c, e, ho.mono hi⟩
section rel
variable {α β : Type} {D : DK α β} {I J : Imm}
theorem DRel.mono (hi : ImmLe I J) : ∀ {xs : List α} {hs : List (List Value)} {ss : List Seg}, DRel D I xs hs ss → DRel D J xs hs ss
  | [], [], [], _ => trivial
  | _ :: _, _ :: _, _ :: _, h => ⟨h.1.mono hi, DRel.mono hi h.2⟩
theorem DRel.len1 : ∀ {xs : List α} {hs : List (List Value)} {ss : List Seg}, DRel D I xs hs ss → hs.length = xs.length
  | [], [], [], _ => rfl
  | _ :: _, _ :: _, _ :: _, h => by simp [DRel.len1 h.2]
theorem DRel.len2 : ∀ {xs : List α} {hs : List (List Value)} {ss : List Seg}, DRel D I xs hs ss → ss.length = xs.length
  | [], [], [], _ => rfl
  | _ :: _, _ :: _, _ :: _, h => by simp [DRel.len2 h.2]
theorem DRel.append : ∀ {xs ys : List α} {hs gs : List (List Value)} {ss ts : List Seg}, DRel D I xs hs ss → DRel D I ys gs ts → DRel D I (xs ++ ys) (hs ++ gs) (ss ++ ts)
  | [], _, [], _, [], _, _, h => h
  | _ :: _, _, _ :: _, _, _ :: _, _, h, g => ⟨h.1, DRel.append h.2 g⟩
theorem DRel.take : ∀ (n : Nat) {xs : List α} {hs : List (List Value)} {ss : List Seg}, DRel D I xs hs ss → DRel D I (xs.take n) (hs.take n) (ss.take n)
  | 0, _, _, _, _ => by simp [DRel]
  | n + 1, [], [], [], _ => trivial
  | n + 1, _ :: _, _ :: _, _ :: _, h => ⟨h.1, DRel.take n h.2⟩
theorem DRel.drop : ∀ (n : Nat) {xs : List α} {hs : List (List Value)} {ss : List Seg}, DRel D I xs hs ss → DRel D I (xs.drop n) (hs.drop n) (ss.drop n)
  | 0, _, _, _, h => h
  | n + 1, [], [], [], _ => trivial
  | n + 1, _ :: _, _ :: _, _ :: _, h => DRel.drop n h.2
theorem DRel.set : ∀ (j : Nat) {xs : List α} {hs : List (List Value)} {ss : List Seg} {x : α} {h : List Value} {s : Seg}, DRel D I xs hs ss → DEl D I x h s → DRel D I (xs.set j x) (hs.set j h) (ss.set j s)
  | _, [], [], [], _, _, _, _, _ => trivial
  | 0, _ :: _, _ :: _, _ :: _, _, _, _, h, g => ⟨g, h.2⟩
  | j + 1, _ :: _, _ :: _, _ :: _, _, _, _, h, g => ⟨h.1, DRel.set j h.2 g⟩
theorem DRel.get : ∀ (j : Nat) {xs : List α} {hs : List (List Value)} {ss : List Seg} {x : α}, DRel D I xs hs ss → xs[j]? = some x → ∃ h s, hs[j]? = some h ∧ ss[j]? = some s ∧ DEl D I x h s
  | 0, _ :: _, h :: _, s :: _, _, hd, e => by simp at e; subst e; exact ⟨h, s, rfl, rfl, hd.1⟩
  | j + 1, _ :: _, _ :: _, _ :: _, _, hd, e => by simpa using DRel.get j hd.2 (by simpa using e)
theorem DRel.rep : ∀ (n : Nat) {x : α} {h : List Value} {s : Seg}, DEl D I x h s → DRel D I (List.replicate n x) (List.replicate n h) (List.replicate n s)
  | 0, _, _, _, _ => trivial
  | n + 1, _, _, _, h => ⟨h, DRel.rep n h⟩
theorem DRel.down (hi : ImmLe I J) : ∀ {xs : List α} {hs : List (List Value)} {ss : List Seg}, DRel D I xs hs ss → (∀ p ∈ ss.flatten, J p.1 = some p.2) → ∀ (j : Nat) (x : α) (h : List Value), xs[j]? = some x → hs[j]? = some h → D.kd.rep J x h := by
  intro xs hs ss hd hin j x h e1 e2
  obtain ⟨h', s, e3, e4, A, c, rfl, ho⟩ := hd.get j e1
  rw [e2] at e3
  cases e3
  refine D.hdown (ho.rd hi fun b o m => ?_)
  exact hin (b, o) (List.mem_flatten.2 ⟨s, List.mem_of_getElem? e4, m⟩)
end rel
def DOwn {α β : Type} (D : DK α β) (e : TypeId) (I : Imm) (A : Option Addr) (c : Nat) (xs : List α) (s : Seg) : Prop :=
  ∃ hs so sis junk, Own (Kd.raw D.sz) e I A c hs so ∧ s.Perm (so ++ (sis.flatten ++ junk)) ∧ DRel D I xs hs sis
/-- A row of the call's own among other blocks. -/
def OwnIn {α : Type} (K : Kd α) (e : TypeId) (I : Imm) (A : Option Addr) (c : Nat) (xs : List α) (s : Seg) : Prop := ∃ s', Own K e I A c xs s' ∧ ∀ p ∈ s', p ∈ s
section own
variable {α β : Type} {D : DK α β} {K : Kd α} {e : TypeId} {I J : Imm} {A : Option Addr} {c : Nat} {xs : List α} {s : Seg}
theorem OwnIn.mono (h : OwnIn K e I A c xs s) (hi : ImmLe I J) : OwnIn K e J A c xs s := by
  obtain ⟨s', h, hs⟩ := h
  exact ⟨s', h.mono hi, hs⟩
theorem OwnIn.cap (h : OwnIn K e I A c xs s) : xs.length ≤ c := by obtain ⟨s', h, hs⟩ := h; exact h.cap
theorem OwnIn.ne (h : OwnIn K e I A c xs s) (i : Int) (h0 : 0 ≤ i) (h1 : i < (xs.length : Int)) : A.isSome = true := by obtain ⟨s', h, hs⟩ := h; exact h.ne i h0 h1
theorem OwnIn.nilOf (h : OwnIn K e I A c xs s) (hA : A.isNone = true) : xs = [] := by obtain ⟨s', h, hs⟩ := h; exact h.nilOf hA
theorem OwnIn.take (h : OwnIn K e I A c xs s) (m : Nat) (hm : m ≤ xs.length) : OwnIn K e I A c (xs.take m) s := by obtain ⟨s', h, hs⟩ := h; exact ⟨s', h.take m hm, hs⟩
theorem OwnIn.rd (h : OwnIn K e I A c xs s) (hi : ImmLe I J) (hs : SegIn s J) : Rd K J A c xs := by
  obtain ⟨s', h, hin⟩ := h
  exact h.rd hi fun b o m => hs b o (hin _ m)
theorem Sat.cellIn {E w : World} {Ms : List Seg} {k g : Nat} {cs : Array Value} {T : TypeId} {fr : Nat × Nat} (h : Sat E w I Ms) (hm : Ms[k]? = some s) (hin : (g, Obj.cells cs T fr) ∈ s) (j : Nat) {v : Value} (hv : cs[j]? = some v) :
    w.cell? ⟨g, j, none⟩ = some v := cell?_of (ad := ⟨g, j, none⟩) (h.seg (List.mem_of_getElem? hm) hin).1 rfl hv
theorem OwnIn.elem (h : OwnIn K e I A c xs s) (d : α) (i : Int) (h0 : 0 ≤ i) (h1 : i < (xs.length : Int)) :
    ∃ cs, K.rep I (rdA d xs i) cs ∧ ∀ j v, cs[j]? = some v → ∀ {E w : World} {Ms : List Seg} {k : Nat}, Sat E w I Ms → Ms[k]? = some s → w.cell? (((A.getD ad0).add (i.toNat * K.sz)).add j) = some v := by
  obtain ⟨s', h, hin⟩ := h
  rcases h with ⟨_, _, rfl, _⟩ | ⟨b, cells, fr, rfl, rfl, hf, h3, h4, h5⟩
  · simp at h1; omega
  · obtain ⟨cs, hc, hv⟩ := h5 _ _ (rdA_some d xs i h0 h1)
    refine ⟨cs, hc, fun j v ev E w Ms k hs hm => ?_⟩
    simp only [Option.getD_some, add_mk, Nat.zero_add]
    exact hs.cellIn hm (hin _ (.head _)) _ (hv j v ev)
theorem OwnIn.one {enc : α → Value} {he : ∀ x, (enc x).oneCell' = true} (h : OwnIn (Kd.one enc he) e I A c xs s) (d : α) (i : Int) (h0 : 0 ≤ i) (h1 : i < (xs.length : Int))
    {E w : World} {Ms : List Seg} {k : Nat} (hs : Sat E w I Ms) (hm : Ms[k]? = some s) : w.cell? ((A.getD ad0).add (i.toNat * 1)) = some (enc (rdA d xs i)) := by
  obtain ⟨cs, hc, hv⟩ := h.elem d i h0 h1
  have := hv 0 (enc (rdA d xs i)) (by rw [show cs = [enc (rdA d xs i)] from hc]; rfl) hs hm
  rwa [add0] at this
theorem OwnIn.rowAt (h : OwnIn K e I A c xs s) {E w : World} {Ms : List Seg} {k : Nat} (hs : Sat E w I Ms) (hm : Ms[k]? = some s) : RowAt K I w A xs := by
  obtain ⟨s', h, hin⟩ := h
  rcases h with ⟨rfl, rfl, rfl, rfl⟩ | ⟨b, cells, fr, rfl, rfl, hf, h3, h4, h5⟩
  · exact ⟨[], by simp, fun j x h => by simp at h, fun h => absurd h (Nat.lt_irrefl 0), fun _ => rfl, fun j v h => by simp at h, rfl⟩
  · have hblk := hs.seg (List.mem_of_getElem? hm) (hin _ (.head _))
    have hs0 : Sat E w I [[(b, .cells cells e fr)]] := ⟨hs.os, hs.tape, hs.output, hs.imm, fun b' o' m => by simp at m; obtain ⟨rfl, rfl⟩ := m; exact hblk, by simp⟩
    exact Own.rowAt (k := 0) (.inr ⟨b, cells, fr, rfl, rfl, hf, h3, h4, h5⟩ : Own K e I _ _ _ _) hs0 rfl
theorem DOwn.mono (h : DOwn D e I A c xs s) (hi : ImmLe I J) : DOwn D e J A c xs s := by
  obtain ⟨hs, so, sis, junk, ho, hp, hr⟩ := h
  exact ⟨hs, so, sis, junk, ho.mono hi, hp, hr.mono hi⟩
theorem DOwn.cap (h : DOwn D e I A c xs s) : xs.length ≤ c := by
  obtain ⟨hs, so, sis, junk, ho, hp, hr⟩ := h
  rw [← hr.len1]; exact ho.cap
theorem DOwn.ne (h : DOwn D e I A c xs s) (i : Int) (h0 : 0 ≤ i) (h1 : i < (xs.length : Int)) : A.isSome = true := by
  obtain ⟨hs, so, sis, junk, ho, hp, hr⟩ := h
  exact ho.ne i h0 (by rw [hr.len1]; exact h1)
theorem DOwn.nilOf (h : DOwn D e I A c xs s) (hA : A.isNone = true) : xs = [] := by
  obtain ⟨hs, so, sis, junk, ho, hp, hr⟩ := h
  have := ho.nilOf hA
  have hl := hr.len1
  rw [this] at hl
  exact List.eq_nil_of_length_eq_zero hl.symm
theorem DOwn.nil (D : DK α β) (e : TypeId) (I : Imm) : DOwn D e I none 0 ([] : List α) [] := ⟨[], [], [], [], Own.nil _ _ _, .refl _, trivial⟩
theorem DOwn.take (h : DOwn D e I A c xs s) (m : Nat) (hm : m ≤ xs.length) : DOwn D e I A c (xs.take m) s := by
  obtain ⟨hs, so, sis, junk, ho, hp, hr⟩ := h
  refine ⟨hs.take m, so, sis.take m, (sis.drop m).flatten ++ junk, ho.take m (by rw [hr.len1]; exact hm), ?_, hr.take m⟩
  rw [← List.append_assoc (sis.take m).flatten, ← List.flatten_append, List.take_append_drop]
  exact hp
theorem cut_downD (h : DOwn D e I A c xs s) {size m : Nat} (hm : m ≤ xs.length) : cutV A c size 0 m = .slice A (xs.take m).length c := by
  rw [cut_zero, List.length_take, Nat.min_eq_left hm]
/-- All of it becomes memory that nobody turns any more. -/
theorem DOwn.rd (h : DOwn D e I A c xs s) (hi : ImmLe I J) (hin : SegIn s J) : Rd D.kd J A c xs := by
  obtain ⟨hs, so, sis, junk, ho, hp, hr⟩ := h
  have hl := hr.len1
  have hro : Rd (Kd.raw D.sz) J A c hs := ho.rd hi fun b o m => hin b o (hp.mem_iff.2 (List.mem_append_left _ m))
  obtain ⟨g1, g2, g3, g4⟩ := hro
  refine ⟨by rw [← hl]; exact g1, fun hp => g2 (by rw [hl]; exact hp), fun hp => g3 (by rw [hl]; exact hp), fun j x hx => ?_⟩
  obtain ⟨h', s', e3, e4, _⟩ := hr.get j hx
  obtain ⟨cs, hc, hv⟩ := g4 j h' e3
  obtain ⟨rfl, _, _⟩ := hc
  refine ⟨cs, hr.down hi (fun p m => hin p.1 p.2 (hp.mem_iff.2 (List.mem_append_right _ (List.mem_append_left _ m)))) j x cs hx e3, fun i v ev => ?_⟩
  rw [D.hsz]
  exact hv i v ev
/-- The row itself stays the call's own, what its elements hold becomes memory that nobody turns any more. -/
theorem DOwn.half {hs : List (List Value)} {so : Seg} {sis : List Seg} (hr : DRel D I xs hs sis) (ho : Own (Kd.raw D.sz) e I A c hs so) (hi : ImmLe I J) (hin : ∀ p ∈ sis.flatten, J p.1 = some p.2) : Own D.kd e J A c xs so := by
  rcases ho with ⟨rfl, rfl, rfl, rfl⟩ | ⟨b, cells, fr, rfl, rfl, hf, h3, h4, h5⟩
  · have := hr.len1
    obtain rfl := List.eq_nil_of_length_eq_zero this.symm
    exact Own.nil _ _ _
  · refine .inr ⟨b, cells, fr, rfl, rfl, hf, by rw [← hr.len1]; exact h3, by rw [D.hsz]; exact h4, fun j x hx => ?_⟩
    obtain ⟨h', s', e3, e4, _⟩ := hr.get j hx
    obtain ⟨cs, hc, hv⟩ := h5 j h' e3
    obtain ⟨rfl, _, _⟩ := hc
    refine ⟨cs, hr.down hi hin j x cs hx e3, fun i v ev => ?_⟩
    rw [D.hsz]
    exact hv i v ev
end own
/-- Element i of a deep row, as it stands: its row is at A1, c1. -/
def DAt {α β : Type} (D : DK α β) (e : TypeId) (I : Imm) (A : Option Addr) (c : Nat) (xs : List α) (s : Seg) (d : α) (i : Int) (A1 : Option Addr) (c1 : Nat) : Prop :=
  (0 ≤ i ∧ i < (xs.length : Int)) ∧ ∃ hs so sis junk sj, Own (Kd.raw D.sz) e I A c hs so ∧ s.Perm (so ++ (sis.flatten ++ junk)) ∧ DRel D I xs hs sis ∧ hs[i.toNat]? = some (D.enc (rdA d xs i) A1 c1) ∧ sis[i.toNat]? = some sj ∧ Own D.K D.ei I A1 c1 (D.get (rdA d xs i)) sj
section at_
variable {α β : Type} {D : DK α β} {e : TypeId} {I J : Imm} {A A1 : Option Addr} {c c1 : Nat} {xs : List α} {s : Seg} {d : α} {i : Int}
theorem DOwn.at (h : DOwn D e I A c xs s) (d : α) (i : Int) (h0 : 0 ≤ i) (h1 : i < (xs.length : Int)) : ∃ A1 c1, DAt D e I A c xs s d i A1 c1 := by
  obtain ⟨hs, so, sis, junk, ho, hp, hr⟩ := h
  obtain ⟨h', sj, e3, e4, A1, c1, rfl, hj⟩ := hr.get _ (rdA_some d xs i h0 h1)
  exact ⟨A1, c1, ⟨h0, h1⟩, hs, so, sis, junk, sj, ho, hp, hr, e3, e4, hj⟩
theorem DAt.own (h : DAt D e I A c xs s d i A1 c1) : DOwn D e I A c xs s := by
  obtain ⟨_, hs, so, sis, junk, sj, ho, hp, hr, _⟩ := h
  exact ⟨hs, so, sis, junk, ho, hp, hr⟩
theorem DAt.mono (h : DAt D e I A c xs s d i A1 c1) (hi : ImmLe I J) : DAt D e J A c xs s d i A1 c1 := by
  obtain ⟨hb, hs, so, sis, junk, sj, ho, hp, hr, e3, e4, hj⟩ := h
  exact ⟨hb, hs, so, sis, junk, sj, ho.mono hi, hp, hr.mono hi, e3, e4, hj.mono hi⟩
theorem DAt.inn (h : DAt D e I A c xs s d i A1 c1) : OwnIn D.K D.ei I A1 c1 (D.get (rdA d xs i)) s := by
  obtain ⟨hb, hs, so, sis, junk, sj, ho, hp, hr, e3, e4, hj⟩ := h
  exact ⟨sj, hj, fun p m => hp.mem_iff.2 (List.mem_append_right _ (List.mem_append_left _ (List.mem_flatten.2 ⟨sj, List.mem_of_getElem? e4, m⟩)))⟩
theorem DAt.cells (h : DAt D e I A c xs s d i A1 c1) : ∀ (j : Nat) (v : Value), (D.enc (rdA d xs i) A1 c1)[j]? = some v → ∀ {E w : World} {Ms : List Seg} {k : Nat}, Sat E w I Ms → Ms[k]? = some s → w.cell? (((A.getD ad0).add (i.toNat * D.sz)).add j) = some v := by
  intro j v ev E w Ms k hs hm
  obtain ⟨hb, hs', so, sis, junk, sj, ho, hp, hr, e3, e4, hj⟩ := h
  rcases ho with ⟨_, _, rfl, _⟩ | ⟨b, cells, fr, rfl, rfl, hf, h3, h4, h5⟩
  · simp at e3
  · obtain ⟨cs, hc, hv⟩ := h5 _ _ e3
    obtain ⟨rfl, _, _⟩ := hc
    simp only [Option.getD_some, add_mk, Nat.zero_add]
    exact hs.cellIn hm (hp.mem_iff.2 (List.mem_append_left _ (.head _))) _ (hv j v ev)
end at_
section sat
variable {E w : World} {I : Imm} {Ms Ms' : List Seg}
theorem Sat.regroup (hp : Ms.flatten.Perm Ms'.flatten) (h : Sat E w I Ms) : Sat E w I Ms' :=
  ⟨h.os, h.tape, h.output, h.imm, fun b o m => h.mt b o (hp.mem_iff.2 m), (hp.map _).nodup_iff.1 h.nd⟩
theorem at_regroup {n : Nat} {L : Fra} {K : Act → World → Prop} (hp : Ms.flatten.Perm Ms'.flatten) (h : At E n L I Ms' K) : At E n L I Ms K := fun a w ha hs => h a w ha (hs.regroup hp)
theorem perm_two {s a b : Seg} {k : Nat} (hm : Ms[k]? = some s) (hp : s.Perm (a ++ b)) : Ms.flatten.Perm (a :: Ms.set k b).flatten := by
  have h1 : Ms.flatten.Perm (s :: Ms.eraseIdx k).flatten := (perm_at hm).flatten
  have h2 : (Ms.set k b).flatten.Perm (b :: Ms.eraseIdx k).flatten := (perm_set hm).flatten
  rw [List.flatten_cons] at h1 h2 ⊢
  refine h1.trans ((hp.append_right _).trans ?_)
  rw [List.append_assoc]
  exact h2.symm.append_left a
theorem perm_one {s s' : Seg} {k : Nat} (hm : Ms[k]? = some s) (hp : s.Perm s') : Ms.flatten.Perm (Ms.set k s').flatten := by
  have h1 : Ms.flatten.Perm (s :: Ms.eraseIdx k).flatten := (perm_at hm).flatten
  have h2 : (Ms.set k s').flatten.Perm (s' :: Ms.eraseIdx k).flatten := (perm_set hm).flatten
  rw [List.flatten_cons] at h1 h2
  exact h1.trans ((hp.append_right _).trans h2.symm)
end sat
end Go.Proofs.Ytnhnipdanpcbeaa.Eng
