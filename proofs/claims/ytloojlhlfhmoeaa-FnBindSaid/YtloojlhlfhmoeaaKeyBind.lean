/- A key is bound: the program's and the reference's answer are one. -/
import Derived.Test.YtloojlhlfhmoeaaKeyOrd
namespace Go.Proofs.Ytloojlhlfhmoeaa
open Go Eng
set_option linter.unusedVariables false
set_option linter.unusedSimpArgs false

theorem Kat_getD (l : List T_impl_Key) (j : Nat) : Kat l j = (l[j]?).getD z_impl_Key := by simp [Kat, rdA, List.getD_eq_getElem?_getD]
theorem place {l : List T_impl_Key} (h : Right l) (k : T_impl_Key) : ∃ p, p ≤ l.length ∧ (∀ j, j < p → kLess (Kat l j) k) ∧ ∀ j, p ≤ j → j < l.length → ¬ kLess (Kat l j) k := by
  have key : ∀ n, n ≤ l.length → ∃ p, p ≤ n ∧ (∀ j, j < p → kLess (Kat l j) k) ∧ ∀ j, p ≤ j → j < n → ¬ kLess (Kat l j) k := by
    intro n
    induction n with
    | zero => exact fun _ => ⟨0, Nat.le_refl _, fun j hj => by omega, fun j h1 h2 => by omega⟩
    | succ n ih =>
      intro hn
      obtain ⟨p, hp, h1, h2⟩ := ih (by omega)
      by_cases hpn : p = n
      · subst hpn
        by_cases hl : kLess (Kat l p) k
        · exact ⟨p + 1, Nat.le_refl _, fun j hj => (by
            by_cases e : j = p
            · rw [e]; exact hl
            · exact h1 j (by omega)), fun j g1 g2 => by omega⟩
        · exact ⟨p, by omega, h1, fun j g1 g2 => by rw [show j = p by omega]; exact hl⟩
      · refine ⟨p, by omega, h1, fun j g1 g2 g3 => ?_⟩
        by_cases e : j = p
        · rw [e] at g3; exact h2 p (Nat.le_refl _) (by omega) g3
        · exact h2 p (Nat.le_refl _) (by omega) ((h.less (show p < j by omega) (by omega)).trans g3)
  exact key l.length (Nat.le_refl _)
/-- k among the keys, p of which stand ahead of it. -/
def insR (l : List T_impl_Key) (k : T_impl_Key) (p : Nat) : List T_impl_Key := l.take p ++ k :: (if p < l.length ∧ kSame (Kat l p) k then l.drop (p + 1) else l.drop p)
structure Place (l : List T_impl_Key) (k : T_impl_Key) (p : Nat) : Prop where
  le : p ≤ l.length
  lo : ∀ j, j < p → kLess (Kat l j) k
  hi : ∀ j, p ≤ j → j < l.length → ¬ kLess (Kat l j) k
theorem Place.not_same {l : List T_impl_Key} {k : T_impl_Key} {p j : Nat} (h : Place l k p) (hr : Right l) (hj : p < j) (hl : j < l.length) : ¬ kSame (Kat l j) k := fun hs =>
  h.hi p (Nat.le_refl _) (by omega) ((hr.less hj hl).of_same_right hs)
theorem ins_at {l : List T_impl_Key} {k : T_impl_Key} {p : Nat} (hp : p ≤ l.length) (j : Nat) :
    Kat (insR l k p) j = if j < p then Kat l j else if j = p then k else if p < l.length ∧ kSame (Kat l p) k then Kat l j else Kat l (j - 1) := by
  rw [Kat_getD]
  unfold insR
  have hlen : (l.take p).length = p := by rw [List.length_take]; omega
  by_cases h1 : j < p
  · rw [if_pos h1, List.getElem?_append_left (by omega), List.getElem?_take, if_pos h1, Kat_getD]
  · rw [if_neg h1, List.getElem?_append_right (by omega), hlen]
    by_cases h2 : j = p
    · rw [if_pos h2, h2, Nat.sub_self]; rfl
    · rw [if_neg h2]
      obtain ⟨d, hd⟩ : ∃ d, j - p = d + 1 := ⟨j - p - 1, by omega⟩
      rw [hd, List.getElem?_cons_succ]
      split
      · rw [List.getElem?_drop, Kat_getD, show p + 1 + d = j by omega]
      · rw [List.getElem?_drop, Kat_getD, show p + d = j - 1 by omega]
theorem ins_len {l : List T_impl_Key} {k : T_impl_Key} {p : Nat} (hp : p ≤ l.length) : (insR l k p).length = if p < l.length ∧ kSame (Kat l p) k then l.length else l.length + 1 := by
  unfold insR
  by_cases h : p < l.length ∧ kSame (Kat l p) k
  · simp only [if_pos h, List.length_append, List.length_take, List.length_cons, List.length_drop]; omega
  · simp only [if_neg h, List.length_append, List.length_take, List.length_cons, List.length_drop]; omega
theorem ins_right {l : List T_impl_Key} {k : T_impl_Key} {p : Nat} (hr : Right l) (h : Place l k p) (hk : keyOk k) (hs : (p < l.length ∧ kSame (Kat l p) k) ∨ l.length < 60) : Right (insR l k p) := by
  have hle := h.le
  have hlen := ins_len (k := k) hle
  have h60 := hr.1
  have hl2 : (insR l k p).length ≤ 60 := by
    rw [hlen]
    rcases hs with hs | hs
    · rw [if_pos hs]; exact h60
    · split <;> omega
  refine ⟨hl2, fun j hj => ?_⟩
  unfold Adj
  rw [ins_at hle, ins_at hle]
  by_cases h1 : j < p
  · simp only [if_pos h1, if_pos (show j - 1 < p by omega)]
    exact hr.2 j (by omega)
  · simp only [if_neg h1]
    by_cases h2 : j = p
    · subst h2
      simp only [if_true]
      refine ⟨hk, fun h0 => ?_⟩
      rw [if_pos (by omega)]
      exact h.lo _ (by omega)
    · simp only [if_neg h2]
      by_cases hsm : p < l.length ∧ kSame (Kat l p) k
      · rw [if_pos hsm] at hlen
        simp only [if_pos hsm]
        refine ⟨(hr.2 j (by omega)).1, fun h0 => ?_⟩
        rw [if_neg (by omega)]
        by_cases h3 : j - 1 = p
        · rw [if_pos h3]
          have := (hr.2 j (by omega)).2 h0
          rw [h3] at this
          exact this.of_same_left hsm.2.symm
        · rw [if_neg h3]
          exact (hr.2 j (by omega)).2 h0
      · rw [if_neg hsm] at hlen
        simp only [if_neg hsm]
        refine ⟨(hr.2 (j - 1) (by omega)).1, fun h0 => ?_⟩
        rw [if_neg (by omega)]
        by_cases h3 : j - 1 = p
        · rw [if_pos h3, h3]
          have hpl : p < l.length := by omega
          rcases kLess_tri (Kat l p) k with g | g | g
          · exact absurd g (h.hi p (Nat.le_refl _) hpl)
          · exact absurd ⟨hpl, g⟩ hsm
          · exact g
        · rw [if_neg h3]
          exact (hr.2 (j - 1) (by omega)).2 (by omega)
theorem ins_not_right {l : List T_impl_Key} {k : T_impl_Key} {p : Nat} (h : Place l k p) (hk : ¬ keyOk k) : ¬ Right (insR l k p) := fun hr => by
  have hlen := ins_len (k := k) h.le
  have hle := h.le
  have := (hr.2 p (by rw [hlen]; split <;> omega)).1
  rw [ins_at hle, if_neg (by omega), if_pos rfl] at this
  exact hk this
theorem ins_kb {l : List T_impl_Key} {k : T_impl_Key} {p : Nat} (hl : Kb l) (hk : k.Keys.length ≤ 10000 ∧ k.Name.length ≤ 10000) : Kb (insR l k p) := by
  intro x hx
  unfold insR at hx
  rcases List.mem_append.1 hx with h | h
  · exact hl x (List.mem_of_mem_take h)
  · rcases List.mem_cons.1 h with h | h
    · rw [h]; exact hk
    · split at h
      · exact hl x (List.mem_of_mem_drop h)
      · exact hl x (List.mem_of_mem_drop h)

/-! ### the reference -/
theorem specBind_l0 {l : List T_impl_Key} {k : T_impl_Key} (hl : l.length ≤ 100) {r : List T_impl_Key} : ∀ (m i : Nat) (out : List T_impl_Key), i + m = l.length → out.length ≤ 1000 + i → (∀ j, i ≤ j → j < l.length → ¬ kSame (Kat l j) k) →
    Ev (fun n => spec_KeyBind_j0 n (out ++ l.drop i) true l k) r → Ev (fun n => spec_KeyBind_l0 n out true (i : Int) l k) r
  | 0, i, out, hi, ho, _, he => by
    refine Ev.succ ?_
    simp only [spec_KeyBind_l0, if_neg (show ¬ (i : Int) < (l.length : Int) by omega)]
    rw [List.drop_of_length_le (by omega), List.append_nil] at he
    exact he
  | m + 1, i, out, hi, ho, hn, he => by
    have hw : IntKind.i64.wrap ((i : Int) + 1) = ((i + 1 : Nat) : Int) := by rw [wi (by omega) (by omega)]; omega
    have hc : Ev (fun n => spec_KeyBind_l0 n (out ++ [Kat l i]) true ((i + 1 : Nat) : Int) l k) r := by
      refine specBind_l0 hl m (i + 1) _ (by omega) (by simp; omega) (fun j h1 h2 => hn j (by omega) h2) ?_
      rw [List.append_assoc, List.singleton_append, Kat_get (show i < l.length by omega), ← drop_cons (show i < l.length by omega)]
      exact he
    have hns := hn i (Nat.le_refl _) (by omega)
    have hj3 : Ev (fun n => spec_KeyBind_j3 n true l k (i : Int) out true) r := by
      refine Ev.succ ?_
      simp only [spec_KeyBind_j3, if_true, if_pos (show (0 : Int) ≤ (i : Int) by omega), Kat_eq, if_pos (show out.length + ([Kat l i] : List T_impl_Key).length ≤ 3518437208883 by simp; omega), hw]
      exact hc
    refine Ev.succ ?_
    simp only [spec_KeyBind_l0, if_pos (show (i : Int) < (l.length : Int) by omega), if_true]
    refine Ev.succ ?_
    simp only [spec_KeyBind_j4, Bool.false_eq_true, if_false]
    refine Ev.succ ?_
    simp only [spec_KeyBind_j2, if_pos (show (0 : Int) ≤ (i : Int) by omega), Kat_eq]
    by_cases hm : (Kat l i).Map = k.Map
    · refine Ev.ifp hm ?_
      have : (!((Kat l i).Keys == k.Keys)) = true := by
        simp only [Bool.not_eq_true', beq_eq_false_iff_ne]
        exact fun e => hns ⟨hm, e⟩
      rw [this]
      exact hj3
    · exact Ev.ifn hm hj3
theorem specBind_l1 {l : List T_impl_Key} {k : T_impl_Key} {p : Nat} (hl : l.length ≤ 100) (hr : Right l) (hp : Place l k p) {r : List T_impl_Key} (he : Ev (fun n => spec_KeyBind_j1 n (insR l k p) l) r) : ∀ (m i : Nat), i + m = p →
    Ev (fun n => spec_KeyBind_l0 n (l.take i) false (i : Int) l k) r
  | 0, i, hi => by
    have hip : i = p := by omega
    subst hip
    have hle := hp.le
    have hlen : (l.take i).length = i := by rw [List.length_take]; omega
    refine Ev.succ ?_
    by_cases hlt : i < l.length
    · have hw : IntKind.i64.wrap ((i : Int) + 1) = ((i + 1 : Nat) : Int) := by rw [wi (by omega) (by omega)]; omega
      have hnl := hp.hi i (Nat.le_refl _) hlt
      simp only [spec_KeyBind_l0, if_pos (show (i : Int) < (l.length : Int) by omega), Bool.false_eq_true, if_false, if_pos (show (0 : Int) ≤ (i : Int) by omega), before_ev, Option.bind_some, Kat_eq, decide_eq_false hnl, Bool.not_false]
      refine Ev.succ ?_
      simp only [spec_KeyBind_j4, if_true, if_pos (show (l.take i).length + ([k] : List T_impl_Key).length ≤ 3518437208883 by simp; omega)]
      refine Ev.succ ?_
      simp only [spec_KeyBind_j2, if_pos (show (0 : Int) ≤ (i : Int) by omega), Kat_eq]
      have hend : ∀ out, out.length ≤ 1000 + (i + 1) → out ++ l.drop (i + 1) = insR l k i → Ev (fun n => spec_KeyBind_l0 n out true ((i + 1 : Nat) : Int) l k) r := fun out ho e => by
        refine specBind_l0 hl (l.length - (i + 1)) (i + 1) out (by omega) ho (fun j h1 h2 => hp.not_same hr (by omega) h2) ?_
        refine Ev.succ ?_
        simp only [spec_KeyBind_j0, if_true, e]
        exact he
      have hsame : ∀ b : Bool, (b = false ↔ kSame (Kat l i) k) → Ev (fun n => spec_KeyBind_j3 n b l k (i : Int) (l.take i ++ [k]) true) r := fun b hb => by
        refine Ev.succ ?_
        simp only [spec_KeyBind_j3]
        cases b with
        | false =>
          simp only [Bool.false_eq_true, if_false, hw]
          refine hend _ (by simp; omega) ?_
          unfold insR
          rw [if_pos ⟨hlt, hb.1 rfl⟩]
          simp
        | true =>
          simp only [if_true, if_pos (show (0 : Int) ≤ (i : Int) by omega), Kat_eq, if_pos (show (l.take i ++ [k]).length + ([Kat l i] : List T_impl_Key).length ≤ 3518437208883 by simp; omega), hw]
          refine hend _ (by simp; omega) ?_
          unfold insR
          rw [if_neg (fun g => by have := hb.2 g.2; cases this), List.append_assoc, List.append_assoc, List.singleton_append, List.singleton_append, Kat_get hlt, ← drop_cons hlt]
      by_cases hm : (Kat l i).Map = k.Map
      · refine Ev.ifp hm (hsame _ ?_)
        simp only [Bool.not_eq_false', beq_iff_eq]
        exact ⟨fun e => ⟨hm, e⟩, fun e => e.2⟩
      · exact Ev.ifn hm <| hsame true ⟨fun h => (by cases h), fun h => absurd h.1 hm⟩
    · simp only [spec_KeyBind_l0, if_neg (show ¬ (i : Int) < (l.length : Int) by omega)]
      refine Ev.succ ?_
      simp only [spec_KeyBind_j0, Bool.false_eq_true, if_false, if_pos (show (l.take i).length + ([k] : List T_impl_Key).length ≤ 3518437208883 by simp; omega)]
      have : l.take i ++ [k] = insR l k i := by
        unfold insR
        rw [if_neg (fun g => hlt g.1), List.drop_of_length_le (by omega)]
      rw [this]
      exact he
  | m + 1, i, hi => by
    have hle := hp.le
    have hlt : i < l.length := by omega
    have hw : IntKind.i64.wrap ((i : Int) + 1) = ((i + 1 : Nat) : Int) := by rw [wi (by omega) (by omega)]; omega
    have hless := hp.lo i (by omega)
    have ih := specBind_l1 hl hr hp he m (i + 1) (by omega)
    have hj3 : Ev (fun n => spec_KeyBind_j3 n true l k (i : Int) (l.take i) false) r := by
      refine Ev.succ ?_
      simp only [spec_KeyBind_j3, if_true, if_pos (show (0 : Int) ≤ (i : Int) by omega), Kat_eq, if_pos (show (l.take i).length + ([Kat l i] : List T_impl_Key).length ≤ 3518437208883 by simp; omega), hw]
      rw [Kat_get hlt, ← List.take_succ_eq_append_getElem hlt]
      exact ih
    refine Ev.succ ?_
    simp only [spec_KeyBind_l0, if_pos (show (i : Int) < (l.length : Int) by omega), Bool.false_eq_true, if_false, if_pos (show (0 : Int) ≤ (i : Int) by omega), before_ev, Option.bind_some, Kat_eq, decide_eq_true hless, Bool.not_true]
    refine Ev.succ ?_
    simp only [spec_KeyBind_j4, Bool.false_eq_true, if_false]
    refine Ev.succ ?_
    simp only [spec_KeyBind_j2, if_pos (show (0 : Int) ≤ (i : Int) by omega), Kat_eq]
    by_cases hm : (Kat l i).Map = k.Map
    · refine Ev.ifp hm ?_
      have : (!((Kat l i).Keys == k.Keys)) = true := by
        simp only [Bool.not_eq_true', beq_eq_false_iff_ne]
        exact fun e => hless.not_same ⟨hm, e⟩
      rw [this]
      exact hj3
    · exact Ev.ifn hm hj3
/-- What both answer. -/
inductive BindR (l : List T_impl_Key) (k : T_impl_Key) : List T_impl_Key → Prop
  | same : BindR l k l
  | ins (p : Nat) (hr : Right l) (hp : Place l k p) (hk : keyOk k) (hi : Right (insR l k p)) : BindR l k (insR l k p)
theorem bind_ev (l : List T_impl_Key) (k : T_impl_Key) (hl : l.length ≤ 400) (hb : Kb l) (hk : k.Keys.length ≤ 10000 ∧ k.Name.length ≤ 10000) :
    ∃ r, BindR l k r ∧ Ev (fun n => spec_KeyBind n l k) r ∧ Ev (fun n => impl_KeyBind n l k) r := by
  obtain ⟨bs, es, hbs⟩ := specRight_ex l hb (by omega)
  obtain ⟨bi, ei, hbi⟩ := implRight_ex l hb (by omega)
  have hlim : ([] : List T_impl_Key).length + l.length ≤ 3518437208883 := by simp; omega
  have hclone : impl_Key l = some l := by unfold impl_Key; rw [if_pos hlim]; rfl
  have hmany : impl_isMany (l.length : Int) = some false := by unfold impl_isMany; rw [decide_eq_false (by omega)]
  by_cases hr : Right l
  · have hl60 := hr.1
    obtain rfl : bs = true := hbs.2 hr
    obtain rfl : bi = true := hbi.2 hr
    obtain ⟨p, p1, p2, p3⟩ := place hr k
    have hp : Place l k p := ⟨p1, p2, p3⟩
    obtain ⟨bo, eo, hbo⟩ := specRight_ex (insR l k p) (ins_kb hb hk) (by rw [ins_len p1]; split <;> omega)
    obtain ⟨bk, ek, hbk⟩ := keyRight_ex k hk.2
    have hspec : ∀ r, Ev (fun n => spec_KeyBind_j1 n (insR l k p) l) r → Ev (fun n => spec_KeyBind n l k) r := fun r h => by
      unfold spec_KeyBind
      simp only [if_neg (show ¬ (l.length : Int) > 400 by omega), if_pos hlim]
      refine Ev.bind es ?_
      simp only [if_true]
      exact specBind_l1 (by omega) hr hp h p 0 (by omega)
    have hsame : ¬ Right (insR l k p) → Ev (fun n => spec_KeyBind n l k) l := fun hn => hspec l (by
      obtain rfl : bo = false := by cases bo; rfl; exact absurd (hbo.1 rfl) hn
      refine Ev.succ ?_
      simp only [spec_KeyBind_j1]
      refine Ev.bind eo ?_
      simp only [Bool.false_eq_true, if_false, List.nil_append]
      exact Ev.pure _)
    have hins : Right (insR l k p) → Ev (fun n => spec_KeyBind n l k) (insR l k p) := fun hn => hspec _ (by
      obtain rfl : bo = true := hbo.2 hn
      refine Ev.succ ?_
      simp only [spec_KeyBind_j1]
      refine Ev.bind eo ?_
      simp only [if_true]
      exact Ev.pure _)
    by_cases hko : keyOk k
    · obtain rfl : bk = true := hbk.2 hko
      -- the search
      have hfind : Ev (fun n => impl_Key_18_at_19 n l k) ((p : Int), decide (p < l.length ∧ kSame (Kat l p) k)) := by
        unfold impl_Key_18_at_19
        have hj0 : Ev (fun n => impl_Key_18_at_19_j0 n (p : Int) l k) ((p : Int), decide (p < l.length ∧ kSame (Kat l p) k)) := by
          refine Ev.succ ?_
          simp only [impl_Key_18_at_19_j0]
          by_cases hlt : p < l.length
          · simp only [if_pos (show (p : Int) < (l.length : Int) by omega), if_pos (show (0 : Int) ≤ (p : Int) by omega), Kat_eq]
            obtain ⟨c, ec, h1, h2⟩ := compare_ex (Kat l p) k
            refine Ev.bind ec ?_
            have : (c == 0) = decide (p < l.length ∧ kSame (Kat l p) k) := by
              rw [Bool.eq_iff_iff, beq_iff_eq, decide_eq_true_eq, h2]
              exact ⟨fun h => ⟨hlt, h⟩, fun h => h.2⟩
            rw [this]
            exact Ev.pure _
          · simp only [if_neg (show ¬ (p : Int) < (l.length : Int) by omega), decide_eq_false (fun g : p < l.length ∧ kSame (Kat l p) k => hlt g.1)]
            exact Ev.pure _
        have hloop : ∀ (d i j : Nat), j - i ≤ d → i ≤ p → p ≤ j → j ≤ l.length → Ev (fun n => impl_Key_18_at_19_l0 n (i : Int) (j : Int) l k) ((p : Int), decide (p < l.length ∧ kSame (Kat l p) k)) := by
          intro d
          induction d with
          | zero =>
            intro i j h1 h2 h3 h4
            refine Ev.succ ?_
            simp only [impl_Key_18_at_19_l0, if_neg (show ¬ (i : Int) < (j : Int) by omega)]
            rw [show i = p by omega]
            exact hj0
          | succ d ih =>
            intro i j h1 h2 h3 h4
            refine Ev.succ ?_
            by_cases hij : i < j
            · have hmid : IntKind.i64.wrap ((IntKind.u64.wrap (IntKind.i64.wrap ((i : Int) + (j : Int)))).fdiv (2 ^ 1)) = (((i + j) / 2 : Nat) : Int) := by
                rw [wi (x := (i : Int) + (j : Int)) (by omega) (by omega), wu (by omega) (by omega)]
                have : ((i : Int) + (j : Int)).fdiv (2 ^ 1) = (((i + j) / 2 : Nat) : Int) := by
                  rw [Int.fdiv_eq_ediv_of_nonneg _ (by decide)]; omega
                rw [this, wi (by omega) (by omega)]
              simp only [impl_Key_18_at_19_l0, if_pos (show (i : Int) < (j : Int) by omega), hmid]
              have hm1 : (i + j) / 2 < j := by omega
              have hm2 : i ≤ (i + j) / 2 := by omega
              generalize (i + j) / 2 = m at hm1 hm2
              simp only [if_pos (show (0 : Int) ≤ (m : Int) by omega), if_pos (show (m : Int) < (l.length : Int) by omega), Kat_eq]
              obtain ⟨c, ec, g1, g2⟩ := compare_ex (Kat l m) k
              refine Ev.bind ec ?_
              by_cases hc : c < 0
              · simp only [if_pos hc]
                rw [wi (by omega) (by omega), show (m : Int) + 1 = ((m + 1 : Nat) : Int) by omega]
                refine ih (m + 1) j (by omega) ?_ h3 h4
                rcases Nat.lt_or_ge m p with h | h
                · omega
                · exact absurd (g1.1 hc) (p3 m h (by omega))
              · simp only [if_neg hc]
                refine ih i m (by omega) h2 ?_ (by omega)
                rcases Nat.lt_or_ge m p with h | h
                · exact absurd (g1.2 (p2 m h)) hc
                · exact h
            · simp only [impl_Key_18_at_19_l0, if_neg (show ¬ (i : Int) < (j : Int) by omega)]
              rw [show i = p by omega]
              exact hj0
        exact hloop l.length 0 l.length (by omega) (by omega) p1 (Nat.le_refl _)
      have himpl : ∀ r, Ev (fun n => if (decide (p < l.length ∧ kSame (Kat l p) k)) = true then (if (0 : Int) ≤ (p : Int) then (if (p : Int) < (l.length : Int) then (some (l.set (p : Int).toNat k)) else none) else none) else (if (l.length : Int) < 60 then ((impl_Key' l (p : Int) ([k] : List T_impl_Key)).bind fun b8 => (some b8)) else (some l))) r → Ev (fun n => impl_KeyBind n l k) r := fun r h => by
        unfold impl_KeyBind
        rw [hmany]
        simp only [Option.bind_some, Bool.false_eq_true, if_false, hclone]
        refine Ev.bind ei ?_
        simp only [if_true]
        refine Ev.bind ek ?_
        simp only [if_true]
        exact Ev.bind hfind h
      by_cases hsm : p < l.length ∧ kSame (Kat l p) k
      · have hR := ins_right hr hp hko (.inl hsm)
        refine ⟨_, .ins p hr hp hko hR, hins hR, himpl _ ?_⟩
        simp only [decide_eq_true hsm, if_true, if_pos (show (0 : Int) ≤ (p : Int) by omega), if_pos (show (p : Int) < (l.length : Int) by omega), Int.toNat_natCast]
        have : l.set p k = insR l k p := by
          unfold insR
          rw [if_pos hsm, List.set_eq_take_append_cons_drop, if_pos hsm.1]
        rw [this]
        exact Ev.pure _
      · by_cases h60 : l.length < 60
        · have hR := ins_right hr hp hko (.inr h60)
          refine ⟨_, .ins p hr hp hko hR, hins hR, himpl _ ?_⟩
          simp only [decide_eq_false hsm, Bool.false_eq_true, if_false, if_pos (show (l.length : Int) < 60 by omega), impl_Key', if_pos (show l.length + ([k] : List T_impl_Key).length ≤ 3518437208883 by simp; omega), if_pos (show (0 : Int) ≤ (p : Int) by omega),
            if_pos (show (p : Int) ≤ (l.length : Int) by omega), Option.bind_some, Int.toNat_natCast]
          have : l.take p ++ [k] ++ l.drop p = insR l k p := by
            unfold insR
            rw [if_neg hsm]; simp
          rw [this]
          exact Ev.pure _
        · have hN : ¬ Right (insR l k p) := fun g => by
            have := g.1
            rw [ins_len p1, if_neg hsm] at this
            omega
          refine ⟨_, .same, hsame hN, himpl _ ?_⟩
          simp only [decide_eq_false hsm, Bool.false_eq_true, if_false, if_neg (show ¬ (l.length : Int) < 60 by omega)]
          exact Ev.pure _
    · obtain rfl : bk = false := by cases bk; rfl; exact absurd (hbk.1 rfl) hko
      refine ⟨_, .same, hsame (ins_not_right hp hko), ?_⟩
      unfold impl_KeyBind
      rw [hmany]
      simp only [Option.bind_some, Bool.false_eq_true, if_false, hclone]
      refine Ev.bind ei ?_
      simp only [if_true]
      refine Ev.bind ek ?_
      simp only [Bool.false_eq_true, if_false]
      exact Ev.pure _
  · obtain rfl : bs = false := by cases bs; rfl; exact absurd (hbs.1 rfl) hr
    obtain rfl : bi = false := by cases bi; rfl; exact absurd (hbi.1 rfl) hr
    refine ⟨_, .same, ?_, ?_⟩
    · unfold spec_KeyBind
      simp only [if_neg (show ¬ (l.length : Int) > 400 by omega), if_pos hlim]
      refine Ev.bind es ?_
      simp only [Bool.false_eq_true, if_false, List.nil_append]
      exact Ev.pure _
    · unfold impl_KeyBind
      rw [hmany]
      simp only [Option.bind_some, Bool.false_eq_true, if_false, hclone]
      refine Ev.bind ei ?_
      simp only [Bool.false_eq_true, if_false]
      exact Ev.pure _
end Go.Proofs.Ytloojlhlfhmoeaa
