/- Copies, comparisons, sizes and marks of lists and rings. -/
import Derived.Test.YtabdhegmepaeiaaJPush2
namespace Go.Proofs.Ytabdhegmepaeiaa
open Go Eng
set_option linter.unusedVariables false
set_option linter.unusedSimpArgs false

/-! ### copies -/
theorem to_l0 (xs : List Int) (hx : xs.length ≤ 2000000) : ∀ (m i : Nat) (a : List Int), i + m = xs.length → a.length = xs.length → (∀ j, j < i → a[j]? = xs[j]?) → Ev (fun k => laws_toInt64S_l0 k a (i : Int) xs) xs
  | 0, i, a, hi, hl, ha => by
    refine Ev.succ ?_
    simp only [laws_toInt64S_l0, if_neg (show ¬ (i : Int) < (xs.length : Int) by omega)]
    have : a = xs := by
      apply List.ext_getElem?
      intro j
      by_cases hj : j < i
      · exact ha j hj
      · rw [List.getElem?_eq_none (by omega), List.getElem?_eq_none (by omega)]
    rw [this]; exact Ev.pure _
  | m + 1, i, a, hi, hl, ha => by
    have hlt : i < xs.length := by omega
    refine Ev.succ ?_
    simp only [laws_toInt64S_l0, if_pos (show (i : Int) < (xs.length : Int) by omega), if_pos (show (0 : Int) ≤ (i : Int) by omega), if_pos (show (i : Int) < (a.length : Int) by omega), Int.toNat_natCast]
    rw [rdA_get 0 xs i hlt, wi (by omega) (by omega), show (i : Int) + 1 = ((i + 1 : Nat) : Int) by omega]
    refine to_l0 xs hx m (i + 1) _ (by omega) (by rw [List.length_set]; exact hl) fun j hj => ?_
    rw [List.getElem?_set]
    by_cases e : i = j
    · subst e; rw [if_pos rfl, if_pos (by omega), List.getElem?_eq_getElem hlt]
    · rw [if_neg e]; exact ha j (by omega)
theorem to_ev (xs : List Int) (hx : xs.length ≤ 2000000) : Ev (fun k => laws_toInt64S k xs) xs := by
  unfold laws_toInt64S
  simp only [if_pos (show (0 : Int) ≤ (xs.length : Int) by omega), if_pos (show (xs.length : Int) ≤ 35184372088832 by omega), Int.toNat_natCast]
  exact to_l0 xs hx xs.length 0 _ (by omega) (by simp) fun j hj => by omega
theorem toL_l0 (xs : List (List Int)) (hx : Fits xs) : ∀ (m i : Nat) (a : List (List Int)), i + m = xs.length → a.length = xs.length → (∀ j, j < i → a[j]? = xs[j]?) → Ev (fun k => laws_toInt64SS_l0 k a (i : Int) xs) xs
  | 0, i, a, hi, hl, ha => by
    refine Ev.succ ?_
    simp only [laws_toInt64SS_l0, if_neg (show ¬ (i : Int) < (xs.length : Int) by omega)]
    have : a = xs := by
      apply List.ext_getElem?
      intro j
      by_cases hj : j < i
      · exact ha j hj
      · rw [List.getElem?_eq_none (by omega), List.getElem?_eq_none (by omega)]
    rw [this]; exact Ev.pure _
  | m + 1, i, a, hi, hl, ha => by
    have hlt : i < xs.length := by omega
    have hb := hx.1
    refine Ev.succ ?_
    simp only [laws_toInt64SS_l0, if_pos (show (i : Int) < (xs.length : Int) by omega), if_pos (show (0 : Int) ≤ (i : Int) by omega)]
    rw [rdA_get [] xs i hlt]
    refine Ev.bind (to_ev xs[i] (hx.2 _ (List.getElem_mem hlt))) ?_
    simp only [if_pos (show (i : Int) < (a.length : Int) by omega), Int.toNat_natCast]
    rw [wi (by omega) (by omega), show (i : Int) + 1 = ((i + 1 : Nat) : Int) by omega]
    refine toL_l0 xs hx m (i + 1) _ (by omega) (by rw [List.length_set]; exact hl) fun j hj => ?_
    rw [List.getElem?_set]
    by_cases e : i = j
    · subst e; rw [if_pos rfl, if_pos (by omega), List.getElem?_eq_getElem hlt]
    · rw [if_neg e]; exact ha j (by omega)
theorem toL_ev (xs : List (List Int)) (hx : Fits xs) : Ev (fun k => laws_toInt64SS k xs) xs := by
  have hb := hx.1
  unfold laws_toInt64SS
  simp only [if_pos (show (0 : Int) ≤ (xs.length : Int) by omega), if_pos (show (xs.length : Int) ≤ 11728124029610 by omega), Int.toNat_natCast]
  exact toL_l0 xs hx xs.length 0 _ (by omega) (by simp) fun j hj => by omega
theorem toR_ev (r : T_laws_Ring) (hx : Fits r.Items) : Ev (fun k => laws_toRing k r) ⟨r.Items, r.At⟩ := Ev.bind (toL_ev r.Items hx) (Ev.pure _)

/-! ### sizes -/
theorem sz_ev (xs : List Int) (left : Int) (h0 : 0 ≤ left) (h1 : left ≤ 1048576) (hx : xs.length ≤ maxLen) : laws_szInt64S xs left = some (if left - (xs.length : Int) < 0 then -1 else left - (xs.length : Int)) := by
  have : (maxLen : Int) = 9223372036854775807 := rfl
  unfold laws_szInt64S
  rw [wi (by omega) (by omega)]
  split <;> rfl
theorem szL_l0 (xs : List (List Int)) (hx : xs.length ≤ maxLen) (hq : ∀ x ∈ xs, x.length ≤ maxLen) : ∀ (m i : Nat) (left : Int), i + m = xs.length → 0 ≤ left → left ≤ 1048576 →
    ∃ r, Ev (fun k => laws_szInt64SS_l0 k left (i : Int) xs) r ∧ (r < 0 ∨ ∀ j (h : j < xs.length), i ≤ j → (xs[j]).length ≤ 1048576)
  | 0, i, left, hi, h0, h1 => Ev.succ_ex (by
    simp only [laws_szInt64SS_l0, if_neg (show ¬ (i : Int) < (xs.length : Int) by omega)]
    exact Ev.pure_ex (.inr fun j h hj => by omega))
  | m + 1, i, left, hi, h0, h1 => Ev.succ_ex (by
    have hm : (maxLen : Int) = 9223372036854775807 := rfl
    have hlt : i < xs.length := by omega
    have hl := hq _ (List.getElem_mem hlt)
    simp only [laws_szInt64SS_l0, if_pos (show (i : Int) < (xs.length : Int) by omega), if_pos (show (0 : Int) ≤ (i : Int) by omega)]
    rw [rdA_get [] xs i hlt, sz_ev _ left h0 h1 hl]
    simp only [Option.bind_some]
    refine Ev.ite_ex (fun _ => Ev.pure_ex (.inl (by decide))) fun hn => ?_
    have hge : ¬ left - (xs[i].length : Int) < 0 := fun h => hn (by rw [if_pos h]; decide)
    rw [if_neg hge, wi (by omega) (by omega), show (i : Int) + 1 = ((i + 1 : Nat) : Int) by omega]
    obtain ⟨r, e, hr⟩ := szL_l0 xs hx hq m (i + 1) (left - (xs[i].length : Int)) (by omega) (by omega) (by omega)
    refine ⟨r, e, hr.imp id fun g j h hj => ?_⟩
    by_cases ej : j = i
    · subst ej; omega
    · exact g j h (by omega))
theorem szR_ex (r : T_laws_Ring) (hx : r.Items.length ≤ maxLen) (hq : ∀ x ∈ r.Items, x.length ≤ maxLen) : ∃ s, Ev (fun k => laws_szRing k r 1048576) s ∧ (s < 0 ∨ Fits r.Items) := by
  have hm : (maxLen : Int) = 9223372036854775807 := rfl
  have key : ∃ s, Ev (fun k => laws_szInt64SS k r.Items 1048576) s ∧ (s < 0 ∨ Fits r.Items) := by
    unfold laws_szInt64SS
    rw [wi (by omega) (by omega)]
    refine Ev.ite_ex (fun _ => Ev.pure_ex (.inl (by decide))) fun hn => ?_
    obtain ⟨s, e, hs⟩ := szL_l0 r.Items hx hq r.Items.length 0 (1048576 - (r.Items.length : Int)) (by omega) (by omega) (by omega)
    refine ⟨s, e, hs.imp id fun g => ⟨by omega, fun x hx => ?_⟩⟩
    obtain ⟨j, hj, rfl⟩ := List.mem_iff_getElem.1 hx
    have := g j hj (by omega); omega
  unfold laws_szRing
  refine Ev.bind_ex key fun s hs => Ev.ite_ex (fun _ => Ev.pure_ex (.inl (by decide))) fun hn => Ev.pure_ex hs

/-! ### comparisons -/
theorem eq_l0 (xs : List Int) (hx : xs.length ≤ 2000000) : ∀ (m i : Nat), i + m = xs.length → Ev (fun k => laws_eqInt64S_l0 k (i : Int) xs xs) true
  | 0, i, hi => by
    refine Ev.succ ?_
    simp only [laws_eqInt64S_l0, if_neg (show ¬ (i : Int) < (xs.length : Int) by omega)]
    exact Ev.pure _
  | m + 1, i, hi => by
    refine Ev.succ ?_
    simp only [laws_eqInt64S_l0, if_pos (show (i : Int) < (xs.length : Int) by omega), if_pos (show (0 : Int) ≤ (i : Int) by omega), if_true]
    rw [wi (by omega) (by omega), show (i : Int) + 1 = ((i + 1 : Nat) : Int) by omega]
    exact eq_l0 xs hx m (i + 1) (by omega)
theorem eq_ev (xs : List Int) (hx : xs.length ≤ 2000000) : Ev (fun k => laws_eqInt64S k xs xs) true := by
  unfold laws_eqInt64S
  simp only [if_true]
  exact eq_l0 xs hx xs.length 0 (by omega)
theorem eqL_l0 (xs : List (List Int)) (hx : Fits xs) : ∀ (m i : Nat), i + m = xs.length → Ev (fun k => laws_eqInt64SS_l0 k (i : Int) xs xs) true
  | 0, i, hi => by
    refine Ev.succ ?_
    simp only [laws_eqInt64SS_l0, if_neg (show ¬ (i : Int) < (xs.length : Int) by omega)]
    exact Ev.pure _
  | m + 1, i, hi => by
    have hlt : i < xs.length := by omega
    have hb := hx.1
    refine Ev.succ ?_
    simp only [laws_eqInt64SS_l0, if_pos (show (i : Int) < (xs.length : Int) by omega), if_pos (show (0 : Int) ≤ (i : Int) by omega)]
    rw [rdA_get [] xs i hlt, wi (by omega) (by omega), show (i : Int) + 1 = ((i + 1 : Nat) : Int) by omega]
    refine Ev.bind (eq_ev xs[i] (hx.2 _ (List.getElem_mem hlt))) ?_
    simp only [if_true]
    exact eqL_l0 xs hx m (i + 1) (by omega)
theorem eqR_ev (r : T_impl_Ring) (hx : Fits r.Items) : Ev (fun k => laws_eqRing k r r) true := by
  unfold laws_eqRing laws_eqInt64SS
  simp only [if_true]
  refine Ev.bind (eqL_l0 r.Items hx r.Items.length 0 (by omega)) ?_
  simp only [if_true]
  exact Ev.pure _

/-! ### marks -/
def cnt (n : Int) (m : Nat) : List Int := (List.range m).map fun i : Nat => n + (i : Int)
theorem cnt_len (n : Int) (m : Nat) : (cnt n m).length = m := by simp [cnt]
theorem cnt_get (n : Int) (m j : Nat) (h : j < m) : (cnt n m)[j]? = some (n + (j : Int)) := by simp [cnt, h]
theorem mark_l0 (xs : List Int) (n : Int) (hn : 0 ≤ n) (hn2 : n + (xs.length : Int) ≤ 4000000000000000000) : ∀ (m i : Nat) (a : List Int), i + m = xs.length → a.length = xs.length → (∀ j, j < i → a[j]? = some (n + (j : Int))) →
    Ev (fun k => laws_markInt64S_l0 k a (n + (i : Int)) (i : Int) xs) (n + (xs.length : Int), cnt n xs.length)
  | 0, i, a, hi, hl, ha => by
    refine Ev.succ ?_
    simp only [laws_markInt64S_l0, if_neg (show ¬ (i : Int) < (a.length : Int) by omega), if_pos hl]
    have : a = cnt n xs.length := by
      apply List.ext_getElem?
      intro j
      by_cases hj : j < xs.length
      · rw [cnt_get n _ j hj]; exact ha j (by omega)
      · rw [List.getElem?_eq_none (by omega), List.getElem?_eq_none (by rw [cnt_len]; omega)]
    rw [this, show i = xs.length by omega]
    exact Ev.pure _
  | m + 1, i, a, hi, hl, ha => by
    refine Ev.succ ?_
    simp only [laws_markInt64S_l0, if_pos (show (i : Int) < (a.length : Int) by omega), if_pos (show (0 : Int) ≤ (i : Int) by omega), Int.toNat_natCast]
    rw [wi (x := (i : Int) + 1) (by omega) (by omega), wi (x := n + (i : Int) + 1) (by omega) (by omega), show n + (i : Int) + 1 = n + ((i + 1 : Nat) : Int) by omega, show (i : Int) + 1 = ((i + 1 : Nat) : Int) by omega]
    refine mark_l0 xs n hn hn2 m (i + 1) _ (by omega) (by rw [List.length_set]; exact hl) fun j hj => ?_
    rw [List.getElem?_set]
    by_cases e : i = j
    · subst e; rw [if_pos rfl, if_pos (by omega)]
    · rw [if_neg e]; exact ha j (by omega)
theorem mark_ev (xs : List Int) (n : Int) (hn : 0 ≤ n) (hn2 : n + (xs.length : Int) ≤ 4000000000000000000) : Ev (fun k => laws_markInt64S k xs n) (n + (xs.length : Int), cnt n xs.length) := by
  unfold laws_markInt64S
  have := mark_l0 xs n hn hn2 xs.length 0 xs (by omega) rfl (fun j hj => by omega)
  simpa using this
theorem held_l0 (n : Int) (l : Nat) (hn : 0 ≤ n) (hn2 : n + (l : Int) ≤ 4000000000000000000) : ∀ (m i : Nat), i + m = l → Ev (fun k => laws_heldInt64S_l0 k (n + (i : Int)) (i : Int) (cnt n l)) (n + (l : Int))
  | 0, i, hi => by
    refine Ev.succ ?_
    simp only [laws_heldInt64S_l0, cnt_len, if_neg (show ¬ (i : Int) < (l : Int) by omega)]
    rw [show i = l by omega]; exact Ev.pure _
  | m + 1, i, hi => by
    have hrd : rdA 0 (cnt n l) (i : Int) = n + (i : Int) := by
      simp [rdA, List.getD_eq_getElem?_getD, cnt_get n l i (by omega)]
    refine Ev.succ ?_
    simp only [laws_heldInt64S_l0, cnt_len, if_pos (show (i : Int) < (l : Int) by omega), if_pos (show (0 : Int) ≤ (i : Int) by omega), hrd, if_true]
    rw [wi (x := (i : Int) + 1) (by omega) (by omega), wi (x := n + (i : Int) + 1) (by omega) (by omega), show n + (i : Int) + 1 = n + ((i + 1 : Nat) : Int) by omega, show (i : Int) + 1 = ((i + 1 : Nat) : Int) by omega]
    exact held_l0 n l hn hn2 m (i + 1) (by omega)
theorem held_ev (n : Int) (l : Nat) (hn : 0 ≤ n) (hn2 : n + (l : Int) ≤ 4000000000000000000) : Ev (fun k => laws_heldInt64S k (cnt n l) n) (n + (l : Int)) := by
  unfold laws_heldInt64S
  have := held_l0 n l hn hn2 l 0 (by omega)
  simpa using this
def tot : List (List Int) → Nat
  | [] => 0
  | x :: r => x.length + tot r
def markL : List (List Int) → Int → List (List Int)
  | [], _ => []
  | x :: r, n => cnt n x.length :: markL r (n + (x.length : Int))
theorem markL_len : ∀ (l : List (List Int)) (n : Int), (markL l n).length = l.length
  | [], _ => rfl
  | x :: r, n => by simp [markL, markL_len r]
theorem tot_drop {l : List (List Int)} {i : Nat} (h : i < l.length) : tot (l.drop i) = l[i].length + tot (l.drop (i + 1)) := by
  rw [drop_cons h]; rfl
theorem markL_drop {l : List (List Int)} {i : Nat} (h : i < l.length) (n : Int) : markL (l.drop i) n = cnt n l[i].length :: markL (l.drop (i + 1)) (n + (l[i].length : Int)) := by
  rw [drop_cons h]; rfl
theorem tot_le {l : List (List Int)} {c : Nat} (h : ∀ x ∈ l, x.length ≤ c) : tot l ≤ l.length * c := by
  induction l with
  | nil => simp [tot]
  | cons x r ih =>
    have h1 := h x (.head _)
    have h2 := ih fun y hy => h y (.tail _ hy)
    simp only [tot, List.length_cons, Nat.add_mul]
    omega
theorem Fits.tot {l : List (List Int)} (h : Fits l) : tot l ≤ 4000000000000 := by
  have h1 := tot_le h.2
  have h2 : l.length * 2000000 ≤ 2000000 * 2000000 := Nat.mul_le_mul_right _ h.1
  omega
theorem markS_l0 (l : List (List Int)) (N : Int) (hL : l.length ≤ 2000000) (hN : N ≤ 4000000000000000000) : ∀ (m i : Nat) (n : Int) (a : List (List Int)), i + m = l.length → 0 ≤ n → n + (tot (l.drop i) : Int) ≤ N → a.length = l.length → (∀ j, i ≤ j → a[j]? = l[j]?) →
    Ev (fun k => laws_markInt64SS_l0 k a n (i : Int) l) (n + (tot (l.drop i) : Int), a.take i ++ markL (l.drop i) n)
  | 0, i, n, a, hi, hn, hb, hl, ha => by
    refine Ev.succ ?_
    simp only [laws_markInt64SS_l0, if_neg (show ¬ (i : Int) < (a.length : Int) by omega), if_pos hl]
    rw [List.drop_of_length_le (by omega), List.take_of_length_le (by omega)]
    simp only [tot, markL, List.append_nil]
    have : n + ((0 : Nat) : Int) = n := by omega
    rw [this]; exact Ev.pure _
  | m + 1, i, n, a, hi, hn, hb, hl, ha => by
    have hlt : i < l.length := by omega
    have ht := tot_drop hlt
    have hrd : rdA [] a (i : Int) = l[i] := by simp [rdA, List.getD_eq_getElem?_getD, ha i (Nat.le_refl _), List.getElem?_eq_getElem hlt]
    refine Ev.succ ?_
    simp only [laws_markInt64SS_l0, if_pos (show (i : Int) < (a.length : Int) by omega), if_pos (show (0 : Int) ≤ (i : Int) by omega), hrd]
    refine Ev.bind (mark_ev l[i] n hn (by omega)) ?_
    simp only [Int.toNat_natCast]
    rw [wi (x := (i : Int) + 1) (by omega) (by omega), show (i : Int) + 1 = ((i + 1 : Nat) : Int) by omega]
    have := markS_l0 l N hL hN m (i + 1) (n + (l[i].length : Int)) (a.set i (cnt n l[i].length)) (by omega) (by omega) (by omega) (by rw [List.length_set]; exact hl) (fun j hj => by rw [List.getElem?_set, if_neg (by omega)]; exact ha j (by omega))
    have e1 : n + (l[i].length : Int) + (tot (l.drop (i + 1)) : Int) = n + (tot (l.drop i) : Int) := by omega
    have e2 : (a.set i (cnt n l[i].length)).take (i + 1) ++ markL (l.drop (i + 1)) (n + (l[i].length : Int)) = a.take i ++ markL (l.drop i) n := by
      rw [markL_drop hlt, List.take_succ_eq_append_getElem (by rw [List.length_set]; omega), List.getElem_set_self, List.take_set_of_le (Nat.le_refl _), List.append_assoc, List.singleton_append]
    rw [e1, e2] at this
    exact this
theorem markR_ev (r : T_impl_Ring) (n : Int) (hn : 0 ≤ n) (hf : Fits r.Items) (hn2 : n ≤ 1000000000000000) : Ev (fun k => laws_markRing k r n) (n + (tot r.Items : Int), markL r.Items n) := by
  have ht := hf.tot
  unfold laws_markRing laws_markInt64SS
  have := markS_l0 r.Items (n + (tot r.Items : Int)) hf.1 (by omega) r.Items.length 0 n r.Items (by omega) hn (by simp) rfl (fun j _ => rfl)
  simp only [List.drop_zero, List.take_zero, List.nil_append] at this
  refine Ev.bind this ?_
  simp only [if_pos (markL_len r.Items n)]
  exact Ev.pure _
theorem heldS_l0 (l : List (List Int)) (N : Int) (hL : l.length ≤ 2000000) (hN : N ≤ 4000000000000000000) (M : List (List Int)) (hM : M.length = l.length) : ∀ (m i : Nat) (n : Int), i + m = l.length → 0 ≤ n → n + (tot (l.drop i) : Int) ≤ N → M.drop i = markL (l.drop i) n →
    Ev (fun k => laws_heldInt64SS_l0 k n (i : Int) M) (n + (tot (l.drop i) : Int))
  | 0, i, n, hi, hn, hb, hd => by
    refine Ev.succ ?_
    simp only [laws_heldInt64SS_l0, if_neg (show ¬ (i : Int) < (M.length : Int) by omega)]
    rw [List.drop_of_length_le (by omega)]
    have : n + ((tot [] : Nat) : Int) = n := by simp [tot]
    rw [this]; exact Ev.pure _
  | m + 1, i, n, hi, hn, hb, hd => by
    have hlt : i < l.length := by omega
    have ht := tot_drop hlt
    rw [markL_drop hlt, drop_cons (show i < M.length by omega)] at hd
    have h1 := (List.cons.inj hd).1
    have h2 := (List.cons.inj hd).2
    refine Ev.succ ?_
    simp only [laws_heldInt64SS_l0, if_pos (show (i : Int) < (M.length : Int) by omega), if_pos (show (0 : Int) ≤ (i : Int) by omega)]
    rw [rdA_get [] M i (by omega), h1]
    refine Ev.bind (held_ev n l[i].length hn (by omega)) ?_
    simp only [if_neg (show ¬ n + (l[i].length : Int) < 0 by omega)]
    rw [wi (x := (i : Int) + 1) (by omega) (by omega), show (i : Int) + 1 = ((i + 1 : Nat) : Int) by omega]
    have := heldS_l0 l N hL hN M hM m (i + 1) (n + (l[i].length : Int)) (by omega) (by omega) (by omega) h2
    have e1 : n + (l[i].length : Int) + (tot (l.drop (i + 1)) : Int) = n + (tot (l.drop i) : Int) := by omega
    rw [e1] at this
    exact this
theorem heldR_ev (l : List (List Int)) (a : Int) (n : Int) (hn : 0 ≤ n) (hf : Fits l) (hn2 : n ≤ 1000000000000000) : Ev (fun k => laws_heldRing k ⟨markL l n, a⟩ n) (n + (tot l : Int)) := by
  have ht := hf.tot
  unfold laws_heldRing laws_heldInt64SS
  have := heldS_l0 l (n + (tot l : Int)) hf.1 (by omega) (markL l n) (markL_len l n) l.length 0 n (by omega) hn (by simp) (by simp)
  simp only [List.drop_zero] at this
  refine Ev.bind this ?_
  simp only [if_neg (show ¬ n + (tot l : Int) < 0 by omega)]
  exact Ev.pure _
end Go.Proofs.Ytabdhegmepaeiaa
