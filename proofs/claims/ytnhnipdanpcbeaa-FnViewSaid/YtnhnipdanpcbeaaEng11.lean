/- The engine, part 11: small words of the printed proofs. -/
import Derived.Test.YtnhnipdanpcbeaaEng10
namespace Go.Proofs.Ytnhnipdanpcbeaa.Eng
open Go

theorem Sat.le {E w : World} {I J : Imm} {Ms : List Seg} (hi : ImmLe I J) (h : Sat E w J Ms) : Sat E w I Ms :=
  ⟨h.os, h.tape, h.output, fun b o e => h.imm b o (hi b o e), fun b o m => ⟨(h.mt b o m).1, by
    cases e : I b with
    | none => rfl
    | some u => have h1 := hi b u e; rw [(h.mt b o m).2] at h1; cases h1⟩, h.nd⟩
theorem hc_mono {I J : Imm} {cs : List Value} {ad : Addr} (h : ∀ (j : Nat) (v : Value), cs[j]? = some v → ∀ {E w : World} {Ms : List Seg}, Sat E w I Ms → w.cell? (ad.add j) = some v) (hi : ImmLe I J) :
    ∀ (j : Nat) (v : Value), cs[j]? = some v → ∀ {E w : World} {Ms : List Seg}, Sat E w J Ms → w.cell? (ad.add j) = some v := fun j v e _ _ _ hs => h j v e (hs.le hi)
theorem hc_monoO {I J : Imm} {cs : List Value} {ad : Addr} {s : Seg} (h : ∀ (j : Nat) (v : Value), cs[j]? = some v → ∀ {E w : World} {Ms : List Seg} {k : Nat}, Sat E w I Ms → Ms[k]? = some s → w.cell? (ad.add j) = some v) (hi : ImmLe I J) :
    ∀ (j : Nat) (v : Value), cs[j]? = some v → ∀ {E w : World} {Ms : List Seg} {k : Nat}, Sat E w J Ms → Ms[k]? = some s → w.cell? (ad.add j) = some v := fun j v e _ _ _ _ hs => h j v e (hs.le hi)
theorem Rd.nilOf {α : Type} {K : Kd α} {I : Imm} {A : Option Addr} {c : Nat} {xs : List α} (h : Rd K I A c xs) (hA : A.isNone = true) : xs = [] := by
  cases A with
  | some a => cases hA
  | none =>
    rcases Nat.eq_zero_or_pos xs.length with h0 | h0
    · exact List.eq_nil_of_length_eq_zero h0
    · have := h.2.2.1 h0; cases this
theorem Own.nilOf {α : Type} {K : Kd α} {e : TypeId} {I : Imm} {A : Option Addr} {c : Nat} {xs : List α} {s : Seg} (h : Own K e I A c xs s) (hA : A.isNone = true) : xs = [] := by
  rcases h with ⟨_, _, rfl, _⟩ | ⟨b, cells, fr, rfl, _⟩
  · rfl
  · cases hA
theorem ite_some {α : Type} {p : Prop} [Decidable p] {x : Option α} {r : α} (h : (if p then x else none) = some r) : p ∧ x = some r := by
  by_cases hp : p
  · rw [if_pos hp] at h; exact ⟨hp, h⟩
  · rw [if_neg hp] at h; cases h
theorem bind_some {α β : Type} {x : Option α} {f : α → Option β} {r : β} (h : x.bind f = some r) : ∃ t, x = some t ∧ f t = some r := by
  cases x with
  | none => cases h
  | some t => exact ⟨t, rfl, h⟩
theorem no_none {α : Type} {r : α} (h : none = some r) : False := by cases h
theorem not_tt {b : Bool} (h : b = false) : (!b) = true := by rw [h]; rfl
theorem not_ff {b : Bool} (h : b = true) : (!b) = false := by rw [h]; rfl
theorem ff_of {b : Bool} (h : ¬ b = true) : b = false := by cases b <;> simp_all
theorem cell0 {w : World} {ad : Addr} {v : Value} (h : w.cell? (ad.add 0) = some v) : w.cell? ad = some v := by rwa [add0] at h
theorem nat_le {a b : Int} (h0 : 0 ≤ a) (h : a ≤ b) : a.toNat ≤ b.toNat := by omega
theorem nat_le2 {a b : Int} (h0 : 0 ≤ a) (h : a ≤ b) : a.toNat ≤ b.toNat := by omega
def mn (x y : Int) : Int := if y < x then y else x
def mx (x y : Int) : Int := if x < y then y else x
theorem infoOf {P : Program} {t : TypeId} {z : Value} {s b : Nat} (h : (P.info? t).map (fun i => (i.zero, i.size, i.bytes)) = some (some z, s, b)) : ∃ i, P.info? t = some i ∧ i.zero = some z ∧ i.size = s ∧ i.bytes = b := by
  cases hi : P.info? t with
  | none => rw [hi] at h; cases h
  | some i =>
    rw [hi] at h
    simp only [Option.map_some, Option.some.injEq, Prod.mk.injEq] at h
    exact ⟨i, rfl, h.1, h.2.1, h.2.2⟩
theorem cellsV {E w : World} {I : Imm} {Ms : List Seg} {k g : Nat} {cs : Array Value} {T : TypeId} {fr : Nat × Nat} (h : Sat E w I Ms) (hm : Ms[k]? = some [(g, .cells cs T fr)]) (l : List Value) (off : Nat)
    (hl : off + l.length ≤ cs.size) (he : (cs.toList.drop off).take l.length = l) : CellsAt w ⟨g, off, none⟩ l 0 := by
  refine cellsAt_of l 0 fun j v hj => ?_
  rw [add_mk]
  refine h.var hm _ ?_
  have hlt := (List.getElem?_eq_some_iff.1 hj).1
  rw [← he, List.getElem?_take, if_pos hlt, List.getElem?_drop, Array.getElem?_toList] at hj
  simpa using hj
theorem Own.take {α : Type} {K : Kd α} {e : TypeId} {I : Imm} {A : Option Addr} {c : Nat} {xs : List α} {s : Seg} (h : Own K e I A c xs s) (m : Nat) (hm : m ≤ xs.length) : Own K e I A c (xs.take m) s := by
  rcases h with ⟨rfl, rfl, rfl, rfl⟩ | ⟨b, cells, fr, h1, h2, hf, h3, h4, h5⟩
  · exact .inl ⟨rfl, rfl, by simp, rfl⟩
  · refine .inr ⟨b, cells, fr, h1, h2, hf, by simp; omega, h4, fun j x hx => ?_⟩
    rw [List.getElem?_take] at hx
    split at hx
    · exact h5 j x hx
    · cases hx
theorem cut_own {α : Type} {K : Kd α} {e : TypeId} {I : Imm} {A : Option Addr} {c size m : Nat} {xs : List α} {s : Seg} (h : Own K e I A c xs s) (hm : m ≤ xs.length) : cutV A c size 0 m = .slice A (xs.take m).length c := by
  have hl : (xs.take m).length = m := by simp; omega
  rw [hl, cutV]
  rcases h with ⟨rfl, rfl, rfl, rfl⟩ | ⟨b, cells, fr, rfl, h2, hf, h3, h4, h5⟩
  · simp
  · split
    · simp
    · simp [add0]
section
variable {P : Program} {E : World} {n : Nat} {L : Fra} {I : Imm} {Ms : List Seg} {Q : Exit → Act → World → Prop} {K : Act → World → Prop}
theorem at_cond_t {c : Operand} {x y : Code} {b : Bool} (hc : opv L c = some (.bool b)) (hb : b = true) (h : At E n L I Ms (x.wp P Q)) : At E n L I Ms ((Code.cond c x y).wp P Q) := by
  subst hb
  exact fun a w ha hs => wp_cond_true (opv_eval ha hc) (h a w ha hs)
theorem at_cond_f {c : Operand} {x y : Code} {b : Bool} (hc : opv L c = some (.bool b)) (hb : b = false) (h : At E n L I Ms (y.wp P Q)) : At E n L I Ms ((Code.cond c x y).wp P Q) := by
  subst hb
  exact fun a w ha hs => wp_cond_false (opv_eval ha hc) (h a w ha hs)
theorem at_join {x y : Code} (Inv : Fra → Imm → List Seg → Prop) (h1 : ∀ L I Ms, Inv L I Ms → At E n L I Ms (y.wp P Q))
    (h2 : (∀ L I Ms, Inv L I Ms → At E n L I Ms (y.wp P Q)) → At E n L I Ms (x.wp P (Exit.then (y.wp P Q) Q))) : At E n L I Ms ((Code.seq x y).wp P Q) := at_seq (h2 h1)
theorem at_eqM {M1 M2 : List Seg} (h1 : Ms = M1) (h2 : M1 = M2) (h : At E n L I M2 K) : At E n L I Ms K := by subst h1 h2; exact h
theorem at_eqL2 {L1 L2 : Fra} (h1 : L = L1) (h2 : L1 = L2) (h : At E n L2 I Ms K) : At E n L I Ms K := by subst h1 h2; exact h
theorem at_nilseg (h : At E n L I ([] :: Ms) K) : At E n L I Ms K := fun a w ha hs => h a w ha ⟨hs.os, hs.tape, hs.output, hs.imm, hs.mt, hs.nd⟩
end
end Go.Proofs.Ytnhnipdanpcbeaa.Eng
