/- 'laws.FnBind' answers true, for every row of bytes. -/
import Derived.Test.YtloojlhlfhmoeaaKeyDraw
namespace Go.Proofs.Ytloojlhlfhmoeaa
open Go Eng
set_option linter.unusedVariables false
set_option linter.unusedSimpArgs false

theorem prefix_ev (a b : List UInt8) : strings_HasPrefix a b = some (decide (b.length ≤ a.length ∧ a.take b.length = b)) := by
  unfold strings_HasPrefix stringslite_HasPrefix
  by_cases h : (a.length : Int) ≥ (b.length : Int)
  · rw [if_pos h, if_pos (by omega), if_pos (by omega)]
    simp only [Option.bind_some, Int.toNat_natCast, List.drop_zero, Option.some.injEq]
    rw [Bool.eq_iff_iff, beq_iff_eq, decide_eq_true_eq]
    exact ⟨fun e => ⟨by omega, e⟩, fun e => e.2⟩
  · rw [if_neg h]
    simp only [Option.bind_some, Option.some.injEq]
    rw [decide_eq_false (fun g => by omega)]
def LookR (k : T_impl_Key) (r : T_impl_KeyOut) : Prop := r = ⟨3, k.Name, (k.Keys.length : Int)⟩ ∨ r.Kind = 2
theorem look_l0_ex {l : List T_impl_Key} (hr : Right l) {p : Nat} (hp : p < l.length) : ∀ (m i : Nat) (kd us : Int) (nm : List UInt8), i + m = l.length →
    (i ≤ p → us < ((Kat l p).Keys.length : Int)) → (p < i → kd = 3 ∧ nm = (Kat l p).Name ∧ us = ((Kat l p).Keys.length : Int)) →
    ∃ r, Ev (fun k => impl_look_l0 k (i : Int) kd nm us l (Kat l p).Map (Kat l p).Keys true) r ∧ LookR (Kat l p) r
  | 0, i, kd, us, nm, hi, h1, h2 => by
    refine Ev.succ_ex ?_
    simp only [impl_look_l0, if_neg (show ¬ (i : Int) < (l.length : Int) by omega)]
    obtain ⟨rfl, rfl, rfl⟩ := h2 (by omega)
    exact Ev.pure_ex (.inl rfl)
  | m + 1, i, kd, us, nm, hi, h1, h2 => by
    have hl60 := hr.1
    have hw : IntKind.i64.wrap ((i : Int) + 1) = ((i + 1 : Nat) : Int) := by rw [wi (by omega) (by omega)]; omega
    have hne : i ≠ p → ¬ kSame (Kat l i) (Kat l p) := fun e g => by
      rcases Nat.lt_or_gt_of_ne e with h | h
      · exact (hr.less h hp).not_same g
      · exact (hr.less h (by omega)).not_same g.symm
    have hk1 : 1 ≤ (Kat l p).Keys.length := (hr.2 p hp).1.2.1.1
    -- the loop goes on as it was
    have skip : i ≠ p → ∃ r, Ev (fun k => impl_look_l0 k ((i + 1 : Nat) : Int) kd nm us l (Kat l p).Map (Kat l p).Keys true) r ∧ LookR (Kat l p) r := fun e =>
      look_l0_ex hr hp m (i + 1) kd us nm (by omega) (fun h => h1 (by omega)) (fun h => h2 (by omega))
    have hj0 : (Kat l i).Map = (Kat l p).Map → ∃ r, Ev (fun k => impl_look_j0 k false l (Kat l p).Map (Kat l p).Keys true (i : Int) kd nm us) r ∧ LookR (Kat l p) r := fun hm => by
      refine Ev.succ_ex ?_
      simp only [impl_look_j0, Bool.false_eq_true, if_false, Kat_eq, prefix_ev, Option.bind_some]
      by_cases hpre : (Kat l i).Keys.length ≤ (Kat l p).Keys.length ∧ (Kat l p).Keys.take (Kat l i).Keys.length = (Kat l i).Keys
      · simp only [decide_eq_true hpre, if_true]
        refine Ev.succ_ex ?_
        simp only [impl_look_j1, hw, Kat_eq]
        by_cases hip : i = p
        · subst hip
          have := h1 (Nat.le_refl _)
          exact Ev.ite_ex (fun _ => look_l0_ex hr hp m (i + 1) _ _ _ (by omega) (fun h => by omega) (fun _ => ⟨rfl, rfl, rfl⟩)) fun hn => absurd (@decide_eq_true _ _ (show ((Kat l i).Keys.length : Int) > us by omega)) hn
        · have hlt : (Kat l i).Keys.length < (Kat l p).Keys.length := by
            rcases Nat.lt_or_eq_of_le hpre.1 with h | h
            · exact h
            · exfalso
              refine hne hip ⟨hm, ?_⟩
              have e := hpre.2
              rw [h, List.take_length] at e
              exact e.symm
          refine Ev.ite_ex (fun hg => ?_) fun _ => skip hip
          have hg := of_decide_eq_true hg
          refine look_l0_ex hr hp m (i + 1) _ _ _ (by omega) (fun h => by omega) (fun h => ?_)
          have := h2 (by omega)
          omega
      · have hip : i ≠ p := fun e => hpre (by subst e; exact ⟨Nat.le_refl _, List.take_length⟩)
        simp only [decide_eq_false hpre, Bool.false_eq_true, if_false]
        refine Ev.succ_ex ?_
        simp only [impl_look_j1, hw, Bool.false_eq_true, if_false]
        exact skip hip
    refine Ev.succ_ex ?_
    simp only [impl_look_l0, if_pos (show (i : Int) < (l.length : Int) by omega), if_pos (show (0 : Int) ≤ (i : Int) by omega), Kat_eq, if_true, hw, prefix_ev, Option.bind_some]
    refine Ev.ite_ex (fun hm => Ev.ite_ex (fun hlen => ?_) fun hlen => hj0 hm) fun hm => skip fun e => hm (by rw [e])
    by_cases hpre : (Kat l p).Keys.length ≤ (Kat l i).Keys.length ∧ (Kat l i).Keys.take (Kat l p).Keys.length = (Kat l p).Keys
    · simp only [decide_eq_true hpre]
      refine Ev.succ_ex ?_
      simp only [impl_look_j0, if_true]
      exact Ev.pure_ex (.inr rfl)
    · simp only [decide_eq_false hpre]
      exact hj0 hm
theorem long_ev (t : List UInt8) (h : t.length ≤ 20000) : Ev (fun k => impl_isLong k [t]) false := by
  unfold impl_isLong slices_ContainsFunc_string_string_at_38 slices_IndexFunc_string_string_at_38
  refine Ev.bind (a := false) ?_ (Ev.pure _)
  refine Ev.bind (a := -1) ?_ (Ev.pure _)
  refine Ev.succ ?_
  have e0 : rdA [] [t] 0 = t := rfl
  simp only [slices_IndexFunc_string_string_at_38_l0, if_pos (show (0 : Int) < (([t] : List (List UInt8)).length : Int) by simp), if_pos (Int.le_refl 0), e0, impl_isLong_1, decide_eq_false (show ¬ (t.length : Int) > 20000 by omega), Option.bind_some, Bool.false_eq_true, if_false]
  rw [wi (by omega) (by omega)]
  refine Ev.succ ?_
  simp only [slices_IndexFunc_string_string_at_38_l0, if_neg (show ¬ (0 : Int) + 1 < (([t] : List (List UInt8)).length : Int) by simp)]
  exact Ev.pure _
theorem many_ev (n : Nat) (h : n ≤ 400) : impl_isMany (n : Int) = some false := by unfold impl_isMany; rw [decide_eq_false (by omega)]
theorem Right.kb {l : List T_impl_Key} (h : Right l) : Kb l := fun x hx => by
  obtain ⟨j, hj, rfl⟩ := List.mem_iff_getElem.1 hx
  have := (h.2 j hj).1
  rw [Kat_get hj] at this
  exact ⟨by have := this.2.1.2; omega, by have := this.2.2.1.2; omega⟩
theorem look_ex {l : List T_impl_Key} (hr : Right l) {p : Nat} (hp : p < l.length) : ∃ r, Ev (fun k => impl_KeyLook k l (Kat l p).Map (Kat l p).Keys) r ∧ LookR (Kat l p) r := by
  have hl60 := hr.1
  obtain ⟨b, e, hb⟩ := implRight_ex l hr.kb (by omega)
  obtain rfl := hb.2 hr
  have hk := (hr.2 p hp).1.2.1
  obtain ⟨r, er, hR⟩ := look_l0_ex hr hp l.length 0 1 0 [] (by omega) (fun _ => by omega) (fun h => by omega)
  refine ⟨r, ?_, hR⟩
  unfold impl_KeyLook
  rw [many_ev _ (by omega)]
  simp only [Option.bind_some, Bool.false_eq_true, if_false]
  refine Ev.bind (long_ev _ (by omega)) ?_
  simp only [Bool.false_eq_true, if_false]
  refine Ev.bind e ?_
  simp only [if_true]
  have : ((Kat l p).Keys == ([] : List UInt8)) = false := by
    cases h : (Kat l p).Keys with
    | nil => rw [h] at hk; simp at hk
    | cons => rfl
  rw [this]
  refine Ev.succ ?_
  simp only [impl_KeyLook_j1, Bool.false_eq_true, if_false]
  refine Ev.succ ?_
  simp only [impl_KeyLook_j0]
  exact Ev.bind er (Ev.pure _)

/-! ### a key that is dropped -/
theorem drop_1 (x k : T_impl_Key) : impl_KeyDrop_1 x k.Map k.Keys = some (decide (kSame x k), k.Map, k.Keys) := by
  unfold impl_KeyDrop_1
  by_cases h : x.Map = k.Map
  · rw [if_pos h]
    congr 2
    rw [Bool.eq_iff_iff, beq_iff_eq, decide_eq_true_eq]
    exact ⟨fun e => ⟨h, e⟩, fun e => e.2⟩
  · rw [if_neg h, decide_eq_false (fun g => h g.1)]
theorem index_ev {l : List T_impl_Key} (hr : Right l) {p : Nat} (hp : p < l.length) : ∀ (m i : Nat), i + m = p → Ev (fun k => impl_Key_40_at_25_l0 k (i : Int) (Kat l p).Map (Kat l p).Keys l) ((p : Int), (Kat l p).Map, (Kat l p).Keys)
  | 0, i, hi => by
    have hip : i = p := by omega
    subst hip
    refine Ev.succ ?_
    simp only [impl_Key_40_at_25_l0, if_pos (show (i : Int) < (l.length : Int) by omega), if_pos (show (0 : Int) ≤ (i : Int) by omega), Kat_eq, drop_1, decide_eq_true (show kSame (Kat l i) (Kat l i) from ⟨rfl, rfl⟩), Option.bind_some, if_true]
    exact Ev.pure _
  | m + 1, i, hi => by
    have hl60 := hr.1
    have hw : IntKind.i64.wrap ((i : Int) + 1) = ((i + 1 : Nat) : Int) := by rw [wi (by omega) (by omega)]; omega
    refine Ev.succ ?_
    simp only [impl_Key_40_at_25_l0, if_pos (show (i : Int) < (l.length : Int) by omega), if_pos (show (0 : Int) ≤ (i : Int) by omega), Kat_eq, drop_1, decide_eq_false ((hr.less (show i < p by omega) hp).not_same), Option.bind_some, Bool.false_eq_true, if_false, hw]
    exact index_ev hr hp m (i + 1) (by omega)
theorem erase_get (l : List T_impl_Key) (p j : Nat) : (l.eraseIdx p)[j]? = if j < p then l[j]? else l[j + 1]? := by rw [List.getElem?_eraseIdx]
theorem delete_ev {l : List T_impl_Key} (hr : Right l) {p : Nat} (hp : p < l.length) : ∀ (m j : Nat) (y : List T_impl_Key), j + m = l.length → p < j → y.length = l.length → (∀ i, i < j - 1 → y[i]? = (l.eraseIdx p)[i]?) → (∀ i, j ≤ i → y[i]? = l[i]?) →
    Ev (fun k => impl_Key_24_at_25_l0 k y ((j - 1 : Nat) : Int) (j : Int) (Kat l p).Map (Kat l p).Keys) (l.eraseIdx p, (Kat l p).Map, (Kat l p).Keys)
  | 0, j, y, hj, hpj, hy, h1, h2 => by
    refine Ev.succ ?_
    have hlen : ((y.take (j - 1) ++ List.replicate (y.length - (j - 1)) z_impl_Key).length : Int) = (y.length : Int) := by
      rw [List.length_append, List.length_take, List.length_replicate]; omega
    simp only [impl_Key_24_at_25_l0, if_neg (show ¬ (j : Int) < (y.length : Int) by omega), if_pos (show (0 : Int) ≤ ((j - 1 : Nat) : Int) by omega), if_pos (show ((j - 1 : Nat) : Int) ≤ (y.length : Int) by omega), Int.toNat_natCast, hlen]
    have e : (y.take (j - 1) ++ List.replicate (y.length - (j - 1)) z_impl_Key).take (j - 1) = l.eraseIdx p := by
      rw [List.take_append_of_le_length (by rw [List.length_take]; omega), List.take_take, Nat.min_self]
      apply List.ext_getElem?
      intro i
      rw [List.getElem?_take]
      split
      · rename_i hlt; exact h1 i hlt
      · rw [erase_get, if_neg (by omega), List.getElem?_eq_none (by omega)]
    rw [e]
    exact Ev.pure _
  | m + 1, j, y, hj, hpj, hy, h1, h2 => by
    have hl60 := hr.1
    have hw : IntKind.i64.wrap ((j : Int) + 1) = ((j + 1 : Nat) : Int) := by rw [wi (by omega) (by omega)]; omega
    have hw2 : IntKind.i64.wrap (((j - 1 : Nat) : Int) + 1) = ((j + 1 - 1 : Nat) : Int) := by rw [wi (by omega) (by omega)]; omega
    have hyj : Kat y j = Kat l j := by rw [Kat_getD, Kat_getD, h2 j (Nat.le_refl _)]
    refine Ev.succ ?_
    simp only [impl_Key_24_at_25_l0, if_pos (show (j : Int) < (y.length : Int) by omega), if_pos (show (0 : Int) ≤ (j : Int) by omega), Kat_eq, hyj, drop_1, decide_eq_false (fun g => (hr.less hpj (by omega)).not_same (kSame.symm g)), Option.bind_some, Bool.false_eq_true, if_false, hw, hw2,
      if_pos (show (0 : Int) ≤ ((j - 1 : Nat) : Int) by omega), if_pos (show ((j - 1 : Nat) : Int) < (y.length : Int) by omega), Int.toNat_natCast]
    refine delete_ev hr hp m (j + 1) _ (by omega) (by omega) (by rw [List.length_set]; exact hy) (fun i hi => ?_) (fun i hi => ?_)
    · rw [List.getElem?_set]
      by_cases e : j - 1 = i
      · subst e
        rw [if_pos rfl, if_pos (by omega), erase_get, if_neg (by omega), show j - 1 + 1 = j by omega, Kat_get (by omega), List.getElem?_eq_getElem (by omega)]
      · rw [if_neg e]; exact h1 i (by omega)
    · rw [List.getElem?_set, if_neg (by omega)]; exact h2 i (by omega)
theorem erase_right {l : List T_impl_Key} (hr : Right l) {p : Nat} (hp : p < l.length) : Right (l.eraseIdx p) := by
  have hlen : (l.eraseIdx p).length = l.length - 1 := List.length_eraseIdx_of_lt hp
  have hat : ∀ j, Kat (l.eraseIdx p) j = if j < p then Kat l j else Kat l (j + 1) := fun j => by
    rw [Kat_getD, erase_get]; split <;> rw [Kat_getD]
  refine ⟨by have := hr.1; omega, fun j hj => ?_⟩
  unfold Adj
  rw [hat, hat]
  by_cases h1 : j < p
  · rw [if_pos h1, if_pos (by omega)]; exact hr.2 j (by omega)
  · rw [if_neg h1]
    refine ⟨(hr.2 (j + 1) (by omega)).1, fun h0 => ?_⟩
    split
    · exact hr.less (by omega) (by omega)
    · exact hr.less (by omega) (by omega)
theorem drop_ev {l : List T_impl_Key} (hr : Right l) {p : Nat} (hp : p < l.length) : Ev (fun k => impl_KeyDrop k l (Kat l p).Map (Kat l p).Keys) (l.eraseIdx p) := by
  have hl60 := hr.1
  obtain ⟨b, e, hb⟩ := implRight_ex l hr.kb (by omega)
  obtain rfl := hb.2 hr
  have hk := (hr.2 p hp).1.2.1
  unfold impl_KeyDrop
  rw [many_ev _ (by omega)]
  simp only [Option.bind_some, Bool.false_eq_true, if_false]
  refine Ev.bind (long_ev _ (by omega)) ?_
  have hclone : impl_Key l = some l := by unfold impl_Key; rw [if_pos (by simp; omega)]; rfl
  simp only [Bool.false_eq_true, if_false, hclone, Option.bind_some]
  refine Ev.bind e ?_
  simp only [if_true]
  refine Ev.bind (a := (l.eraseIdx p, (Kat l p).Map, (Kat l p).Keys)) ?_ (Ev.pure _)
  unfold impl_Key_24_at_25 impl_Key_40_at_25
  refine Ev.bind (index_ev hr hp p 0 (by omega)) ?_
  simp only [if_neg (show ¬ (p : Int) = -1 by omega)]
  have hw : IntKind.i64.wrap ((p : Int) + 1) = ((p + 1 : Nat) : Int) := by rw [wi (by omega) (by omega)]; omega
  rw [hw]
  exact delete_ev hr hp (l.length - (p + 1)) (p + 1) l (by omega) (by omega) rfl (fun i hi => by rw [erase_get, if_pos (by omega)]) (fun i _ => rfl)

/-! ### the law -/
theorem keq_iff (a b : T_impl_Key) : ((a.Map == b.Map) && ((a.Keys == b.Keys) && ((a.Name == b.Name) && true))) = true ↔ a = b := by
  simp only [Bool.and_true, Bool.and_eq_true, beq_iff_eq]
  cases a; cases b
  simp
theorem gone_ev {l : List T_impl_Key} (hr : Right l) {p : Nat} (hp : p < l.length) (q : List T_impl_Key × T_impl_Key) (hq : q.2 = Kat l p) : ∀ (m i : Nat), i + m = (l.eraseIdx p).length → Ev (fun k => laws_FnBind_l0 k (i : Int) q l (l.eraseIdx p)) true
  | 0, i, hi => by
    have hl60 := hr.1
    have hlen : (l.eraseIdx p).length = l.length - 1 := List.length_eraseIdx_of_lt hp
    have hR := erase_right hr hp
    obtain ⟨b, e, hb⟩ := implRight_ex _ hR.kb (by omega)
    obtain rfl := hb.2 hR
    refine Ev.succ ?_
    simp only [laws_FnBind_l0, if_neg (show ¬ (i : Int) < ((l.eraseIdx p).length : Int) by omega)]
    refine Ev.succ ?_
    simp only [laws_FnBind_j4]
    rw [wi (by omega) (by omega)]
    simp only [if_pos (show ((l.eraseIdx p).length : Int) = (l.length : Int) - 1 by omega), if_pos (show ([] : List T_impl_Key).length + (l.eraseIdx p).length ≤ 3518437208883 by simp; omega), List.nil_append]
    exact Ev.bind e (Ev.pure _)
  | m + 1, i, hi => by
    have hl60 := hr.1
    have hlen : (l.eraseIdx p).length = l.length - 1 := List.length_eraseIdx_of_lt hp
    have hw : IntKind.i64.wrap ((i : Int) + 1) = ((i + 1 : Nat) : Int) := by rw [wi (by omega) (by omega)]; omega
    have ih := gone_ev hr hp q hq m (i + 1) (by omega)
    have hns : ¬ kSame (Kat (l.eraseIdx p) i) (Kat l p) := by
      rw [Kat_getD, erase_get]
      split
      · rw [← Kat_getD]; exact (hr.less (by omega) hp).not_same
      · rw [← Kat_getD]; exact fun g => (hr.less (show p < i + 1 by omega) (by omega)).not_same g.symm
    refine Ev.succ ?_
    simp only [laws_FnBind_l0, if_pos (show (i : Int) < ((l.eraseIdx p).length : Int) by omega), if_pos (show (0 : Int) ≤ (i : Int) by omega), Kat_eq, hq, hw]
    by_cases hm : (Kat (l.eraseIdx p) i).Map = (Kat l p).Map
    · refine Ev.ifp hm (Ev.ifn (fun e => hns ⟨hm, e⟩) ih)
    · exact Ev.ifn hm ih
theorem bound_ev (q : List T_impl_Key × T_impl_Key) (l : List T_impl_Key) (hl : l.length ≤ 1000) (he : ∀ b : Bool, (b = true → ∃ p, p < l.length ∧ q.2 = Kat l p) → Ev (fun k => laws_FnBind_j1 k b q l l) true) :
    ∀ (m i : Nat) (b : Bool), i + m = l.length → (b = true → ∃ p, p < l.length ∧ q.2 = Kat l p) → Ev (fun k => laws_FnBind_l1 k b (i : Int) q l l) true
  | 0, i, b, hi, hb => by
    refine Ev.succ ?_
    simp only [laws_FnBind_l1, if_neg (show ¬ (i : Int) < (l.length : Int) by omega)]
    exact he b hb
  | m + 1, i, b, hi, hb => by
    have hw : IntKind.i64.wrap ((i : Int) + 1) = ((i + 1 : Nat) : Int) := by rw [wi (by omega) (by omega)]; omega
    refine Ev.succ ?_
    simp only [laws_FnBind_l1, if_pos (show (i : Int) < (l.length : Int) by omega), if_pos (show (0 : Int) ≤ (i : Int) by omega), Kat_eq, hw]
    cases b with
    | true => simp only [if_true]; exact bound_ev q l hl he m (i + 1) true (by omega) hb
    | false =>
      simp only [Bool.false_eq_true, if_false]
      exact bound_ev q l hl he m (i + 1) _ (by omega) fun h => ⟨i, by omega, ((keq_iff _ _).1 h).symm⟩
theorem same_ev (q : List T_impl_Key × T_impl_Key) (l : List T_impl_Key) (hl : l.length ≤ 1000) (he : Ev (fun k => laws_FnBind_j0 k q l l) true) : ∀ (m i : Nat), i + m = l.length → Ev (fun k => laws_FnBind_l2 k (i : Int) q l l) true
  | 0, i, hi => by
    refine Ev.succ ?_
    simp only [laws_FnBind_l2, if_neg (show ¬ (i : Int) < (l.length : Int) by omega)]
    exact he
  | m + 1, i, hi => by
    have hw : IntKind.i64.wrap ((i : Int) + 1) = ((i + 1 : Nat) : Int) := by rw [wi (by omega) (by omega)]; omega
    refine Ev.succ ?_
    simp only [laws_FnBind_l2, if_pos (show (i : Int) < (l.length : Int) by omega), if_pos (show (0 : Int) ≤ (i : Int) by omega), hw]
    exact Ev.ifp ((keq_iff _ _).2 rfl) (same_ev q l hl he m (i + 1) (by omega))
theorem law_ev (xs : List Int) : ∃ k, laws_FnBind k xs = some true := by
  refine Ev.ex (F := fun k => laws_FnBind k xs) ?_
  unfold laws_FnBind
  by_cases hx : (xs.length : Int) > 1048576
  · exact Ev.ifp hx (Ev.pure _)
  · refine Ev.ifn hx ?_
    obtain ⟨q, e, hl, hkb, hkk⟩ := drawBind_ex xs (by omega)
    refine Ev.bind e ?_
    obtain ⟨r, hR, e1, e2⟩ := bind_ev q.1 q.2 (by omega) hkb hkk
    refine Ev.bind e1 ?_
    refine Ev.ifp (show ([] : List T_impl_Key).length + q.1.length ≤ 3518437208883 by simp; omega) ?_
    rw [List.nil_append]
    refine Ev.bind e2 ?_
    refine Ev.ifp rfl ?_
    have hrl : r.length ≤ 100 := by
      cases hR with
      | same => exact hl
      | ins p _ _ _ hi => have := hi.1; omega
    have hrk : Kb r := hR.kb hkb hkk
    refine same_ev q r (by omega) ?_ r.length 0 (by omega)
    refine Ev.succ ?_
    simp only [laws_FnBind_j0]
    refine bound_ev q r (by omega) (fun b hb => ?_) r.length 0 false (by omega) (fun h => by cases h)
    refine Ev.succ ?_
    simp only [laws_FnBind_j1]
    cases b with
    | false => simp only [Bool.false_eq_true, if_false]; exact Ev.pure _
    | true =>
      simp only [if_true]
      obtain ⟨p, hp, hq⟩ := hb rfl
      obtain ⟨bs, es, hbs⟩ := specRight_ex r hrk (by omega)
      refine Ev.bind es ?_
      cases bs with
      | false => simp only [Bool.false_eq_true, if_false]; exact Ev.pure _
      | true =>
        have hrr := hbs.1 rfl
        simp only [if_true]
        refine Ev.ifp (show ([] : List T_impl_Key).length + r.length ≤ 3518437208883 by simp; omega) ?_
        rw [List.nil_append, hq]
        obtain ⟨o, eo, ho⟩ := look_ex hrr hp
        refine Ev.bind eo ?_
        have hj3 : Ev (fun k => laws_FnBind_j3 k q r) true := by
          refine Ev.succ ?_
          simp only [laws_FnBind_j3, List.nil_append, hq]
          exact Ev.bind (drop_ev hrr hp) (gone_ev hrr hp q hq (r.eraseIdx p).length 0 (by omega))
        rcases ho with rfl | ho
        · exact Ev.ifp (by simp) hj3
        · refine Ev.ifn ?_ (Ev.ifp ho hj3)
          rw [ho]; simp
end Go.Proofs.Ytloojlhlfhmoeaa
