/- The engine, part 15: what holds of fuel from some number on. -/
import Derived.Test.YtnhnipdanpcbeaaEng14
namespace Go.Proofs.Ytnhnipdanpcbeaa.Eng
open Go

/-- From some fuel on the answer is r. -/
def Ev {α : Type} (F : Nat → Option α) (r : α) : Prop := ∃ K, ∀ k, K ≤ k → F k = some r
theorem Ev.pure {α : Type} (r : α) : Ev (fun _ => some r) r := ⟨0, fun _ _ => rfl⟩
theorem Ev.of {α : Type} {F : Nat → Option α} {r : α} (h : ∀ k, F k = some r) : Ev F r := ⟨0, fun k _ => h k⟩
theorem Ev.eq {α : Type} {o : Option α} {r : α} (h : o = some r) : Ev (fun _ => o) r := ⟨0, fun _ _ => h⟩
theorem Ev.succ {α : Type} {F : Nat → Option α} {r : α} (h : Ev (fun k => F (k + 1)) r) : Ev F r := by
  obtain ⟨K, h⟩ := h
  refine ⟨K + 1, fun k hk => ?_⟩
  obtain ⟨j, rfl⟩ : ∃ j, k = j + 1 := ⟨k - 1, by omega⟩
  exact h j (by omega)
theorem Ev.bind {α β : Type} {F : Nat → Option α} {G : Nat → α → Option β} {a : α} {b : β} (h1 : Ev F a) (h2 : Ev (fun k => G k a) b) : Ev (fun k => (F k).bind (G k)) b := by
  obtain ⟨K, h1⟩ := h1
  obtain ⟨K', h2⟩ := h2
  exact ⟨max K K', fun k hk => by show (F k).bind (G k) = some b; rw [h1 k (by omega)]; exact h2 k (by omega)⟩
theorem Ev.ex {α : Type} {F : Nat → Option α} {r : α} (h : Ev F r) : ∃ k, F k = some r := by
  obtain ⟨K, h⟩ := h
  exact ⟨K, h K (Nat.le_refl _)⟩
theorem Ev.ite_ex {α : Type} {c : Prop} [Decidable c] {F G : Nat → Option α} {Q : α → Prop} (h1 : c → ∃ r, Ev F r ∧ Q r) (h2 : ¬ c → ∃ r, Ev G r ∧ Q r) : ∃ r, Ev (fun k => if c then F k else G k) r ∧ Q r := by
  by_cases h : c
  · simp only [if_pos h]; exact h1 h
  · simp only [if_neg h]; exact h2 h
theorem dT {c : Prop} {i : Decidable c} (h : c) : @decide c i = true := @decide_eq_true c i h
theorem dF {c : Prop} {i : Decidable c} (h : ¬ c) : @decide c i = false := @decide_eq_false c i h
theorem Ev.ifp {α : Type} {c : Prop} {_ : Decidable c} {F G : Nat → Option α} {r : α} (h : c) (e : Ev F r) : Ev (fun k => if c then F k else G k) r := by
  simp only [if_pos h]; exact e
theorem Ev.ifn {α : Type} {c : Prop} {_ : Decidable c} {F G : Nat → Option α} {r : α} (h : ¬ c) (e : Ev G r) : Ev (fun k => if c then F k else G k) r := by
  simp only [if_neg h]; exact e
theorem Ev.bind_ex {α β : Type} {F : Nat → Option α} {G : Nat → α → Option β} {R : α → Prop} {Q : β → Prop} (h1 : ∃ a, Ev F a ∧ R a) (h2 : ∀ a, R a → ∃ b, Ev (fun k => G k a) b ∧ Q b) : ∃ b, Ev (fun k => (F k).bind (G k)) b ∧ Q b := by
  obtain ⟨a, e, ha⟩ := h1
  obtain ⟨b, e2, hb⟩ := h2 a ha
  exact ⟨b, e.bind e2, hb⟩
theorem Ev.pure_ex {α : Type} {r : α} {Q : α → Prop} (h : Q r) : ∃ r', Ev (fun _ => some r) r' ∧ Q r' := ⟨r, Ev.pure r, h⟩
theorem Ev.none_ex {α : Type} {Q : α → Prop} (h : False) : ∃ r', Ev (fun _ => (none : Option α)) r' ∧ Q r' := h.elim
theorem Ev.succ_ex {α : Type} {F : Nat → Option α} {Q : α → Prop} (h : ∃ r, Ev (fun k => F (k + 1)) r ∧ Q r) : ∃ r, Ev F r ∧ Q r := by
  obtain ⟨r, e, h⟩ := h
  exact ⟨r, e.succ, h⟩
theorem wi {x : Int} (h0 : -9223372036854775808 ≤ x) (h1 : x ≤ 9223372036854775807) : IntKind.i64.wrap x = x := by
  have key : ∀ m : Int, (if (true && decide (m ≥ 9223372036854775808)) = true then m - 18446744073709551616 else m) = if m ≥ 9223372036854775808 then m - 18446744073709551616 else m := fun m => by simp
  have e : IntKind.i64.wrap x = (if (true && decide (x % 18446744073709551616 ≥ 9223372036854775808)) = true then x % 18446744073709551616 - 18446744073709551616 else x % 18446744073709551616) := rfl
  rw [e, key]
  split <;> omega
theorem wu {x : Int} (h0 : 0 ≤ x) (h1 : x ≤ 18446744073709551615) : IntKind.u64.wrap x = x := by
  simp only [IntKind.wrap, IntKind.signed, IntKind.bits, Bool.false_and, Bool.false_eq_true, if_false]
  omega
theorem wu_range (x : Int) : 0 ≤ IntKind.u64.wrap x ∧ IntKind.u64.wrap x ≤ 18446744073709551615 := by
  simp only [IntKind.wrap, IntKind.signed, IntKind.bits, Bool.false_and, Bool.false_eq_true, if_false]
  omega
theorem rdA_get {α : Type} (d : α) (xs : List α) (i : Nat) (h : i < xs.length) : rdA d xs (i : Int) = xs[i] := by simp [rdA, List.getD_eq_getElem?_getD, h]
theorem drop_cons {α : Type} {xs : List α} {i : Nat} (h : i < xs.length) : xs.drop i = xs[i] :: xs.drop (i + 1) := List.drop_eq_getElem_cons h
end Go.Proofs.Ytnhnipdanpcbeaa.Eng
