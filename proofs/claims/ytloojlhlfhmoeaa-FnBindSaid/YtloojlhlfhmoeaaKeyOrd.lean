/- The order of keys; keys that are right. -/
import Derived.Test.YtloojlhlfhmoeaaG10
import Derived.Test.YtloojlhlfhmoeaaEng15
namespace Go.Proofs.Ytloojlhlfhmoeaa
open Go Eng
set_option linter.unusedVariables false
set_option linter.unusedSimpArgs false

theorem u8_lt_irrefl (a : UInt8) : ¬ a < a := UInt8.lt_irrefl a
theorem bl_irrefl : ∀ a : List UInt8, Op.bytesLess a a = false
  | [] => rfl
  | x :: a => by simp [Op.bytesLess, bl_irrefl a]
theorem bl_trans : ∀ {a b c : List UInt8}, Op.bytesLess a b = true → Op.bytesLess b c = true → Op.bytesLess a c = true
  | a, b, [], _, h2 => by cases b <;> simp [Op.bytesLess] at h2
  | [], b, z :: c, _, _ => rfl
  | x :: a, [], z :: c, h1, _ => by simp [Op.bytesLess] at h1
  | x :: a, y :: b, z :: c, h1, h2 => by
    simp only [Op.bytesLess, Bool.or_eq_true, decide_eq_true_eq, Bool.and_eq_true, beq_iff_eq] at *
    rcases h1 with h1 | ⟨rfl, h1⟩
    · rcases h2 with h2 | ⟨rfl, h2⟩
      · exact .inl (UInt8.lt_trans h1 h2)
      · exact .inl h1
    · rcases h2 with h2 | ⟨rfl, h2⟩
      · exact .inl h2
      · exact .inr ⟨rfl, bl_trans h1 h2⟩
theorem cb_spec : ∀ (a b : List UInt8), (Lib.compareBytes a b < 0 ↔ Op.bytesLess a b = true) ∧ (Lib.compareBytes a b = 0 ↔ a = b) ∧ (Lib.compareBytes a b > 0 ↔ Op.bytesLess b a = true)
  | [], [] => by simp [Lib.compareBytes, Op.bytesLess]
  | [], y :: b => by simp [Lib.compareBytes, Op.bytesLess]
  | x :: a, [] => by simp [Lib.compareBytes, Op.bytesLess]
  | x :: a, y :: b => by
    obtain ⟨h1, h2, h3⟩ := cb_spec a b
    unfold Lib.compareBytes
    simp only [Op.bytesLess, Bool.or_eq_true, decide_eq_true_eq, Bool.and_eq_true, beq_iff_eq, List.cons.injEq]
    by_cases hlt : x < y
    · have hgt : ¬ y < x := fun h => UInt8.lt_irrefl x (UInt8.lt_trans hlt h)
      have hne : ¬ x = y := fun e => by subst e; exact UInt8.lt_irrefl x hlt
      have hne' : ¬ y = x := fun e => hne e.symm
      simp [hlt, hgt, hne, hne']
    · by_cases hgt : y < x
      · have hne : ¬ x = y := fun e => by subst e; exact UInt8.lt_irrefl x hgt
        have hne' : ¬ y = x := fun e => hne e.symm
        simp [hlt, hgt, hne, hne']
      · have e : x = y := UInt8.le_antisymm (UInt8.not_lt.1 hgt) (UInt8.not_lt.1 hlt)
        subst e
        simp [hlt, h1, h2, h3]
def kLess (a b : T_impl_Key) : Prop := a.Map < b.Map ∨ a.Map = b.Map ∧ Op.bytesLess a.Keys b.Keys = true
def kSame (a b : T_impl_Key) : Prop := a.Map = b.Map ∧ a.Keys = b.Keys
instance (a b : T_impl_Key) : Decidable (kLess a b) := inferInstanceAs (Decidable (_ ∨ _))
instance (a b : T_impl_Key) : Decidable (kSame a b) := inferInstanceAs (Decidable (_ ∧ _))
theorem kLess.trans {a b c : T_impl_Key} (h1 : kLess a b) (h2 : kLess b c) : kLess a c := by
  rcases h1 with h1 | ⟨h1, g1⟩ <;> rcases h2 with h2 | ⟨h2, g2⟩
  · exact .inl (by omega)
  · exact .inl (by omega)
  · exact .inl (by omega)
  · exact .inr ⟨by omega, bl_trans g1 g2⟩
theorem kLess.irrefl (a : T_impl_Key) : ¬ kLess a a := by
  rintro (h | ⟨_, h⟩)
  · omega
  · rw [bl_irrefl] at h; cases h
theorem kSame.not_less {a b : T_impl_Key} (h : kSame a b) : ¬ kLess a b := by
  rintro (g | ⟨_, g⟩)
  · have := h.1; omega
  · rw [h.2, bl_irrefl] at g; cases g
theorem kSame.symm {a b : T_impl_Key} (h : kSame a b) : kSame b a := ⟨h.1.symm, h.2.symm⟩
theorem kLess.not_same {a b : T_impl_Key} (h : kLess a b) : ¬ kSame a b := fun g => g.not_less h
theorem kLess.not_gt {a b : T_impl_Key} (h : kLess a b) : ¬ kLess b a := fun g => kLess.irrefl a (h.trans g)
theorem kLess_tri (a b : T_impl_Key) : kLess a b ∨ kSame a b ∨ kLess b a := by
  rcases Int.lt_trichotomy a.Map b.Map with h | h | h
  · exact .inl (.inl h)
  · rcases Int.lt_trichotomy (Lib.compareBytes a.Keys b.Keys) 0 with g | g | g
    · exact .inl (.inr ⟨h, (cb_spec _ _).1.1 g⟩)
    · exact .inr (.inl ⟨h, (cb_spec _ _).2.1.1 g⟩)
    · exact .inr (.inr (.inr ⟨h.symm, (cb_spec _ _).2.2.1 g⟩))
  · exact .inr (.inr (.inl h))
theorem kLess.of_same_left {a b c : T_impl_Key} (h : kSame a b) (g : kLess b c) : kLess a c := by
  unfold kLess at *; rw [h.1, h.2]; exact g
theorem kLess.of_same_right {a b c : T_impl_Key} (g : kLess a b) (h : kSame b c) : kLess a c := by
  unfold kLess at *; rw [← h.1, ← h.2]; exact g

/-! ### what compares -/
theorem before_ev (a b : T_impl_Key) : spec_l07Before a b = some (decide (kLess a b)) := by
  unfold spec_l07Before
  by_cases h : a.Map < b.Map
  · rw [if_pos h]; simp [kLess, h]
  · rw [if_neg h]
    by_cases g : a.Map = b.Map
    · rw [if_pos g]; congr 1
      rw [Bool.eq_iff_iff, decide_eq_true_eq]
      simp [kLess, h, g]
    · rw [if_neg g]; simp [kLess, h, g]
theorem compare_ex (a b : T_impl_Key) : ∃ c, Ev (fun k => impl_compareKeys k a b) c ∧ (c < 0 ↔ kLess a b) ∧ (c = 0 ↔ kSame a b) := by
  have h1 : cmp_Compare_int64 a.Map b.Map = some (if a.Map < b.Map then -1 else if a.Map > b.Map then 1 else 0) := by
    unfold cmp_Compare_int64 cmp_isNaN_int64
    simp only [Option.bind_some, bne_self_eq_false, Bool.false_eq_true, if_false]
    split
    · rfl
    · split <;> rfl
  have h2 : strings_Compare a.Keys b.Keys = some (Lib.compareBytes a.Keys b.Keys) := rfl
  obtain ⟨c1, c2, c3⟩ := cb_spec a.Keys b.Keys
  generalize hm : (if a.Map < b.Map then (-1 : Int) else if a.Map > b.Map then 1 else 0) = m at h1
  generalize hb : Lib.compareBytes a.Keys b.Keys = bb at h2 c1 c2 c3
  have hor : Ev (fun k => cmp_Or_int k [m, bb]) (if m = 0 then bb else m) := by
    unfold cmp_Or_int
    refine Ev.succ ?_
    simp only [cmp_Or_int_l0, if_pos (show (0 : Int) < (([m, bb] : List Int).length : Int) by simp), if_pos (Int.le_refl 0)]
    have e0 : rdA 0 [m, bb] 0 = m := rfl
    have e1 : rdA 0 [m, bb] 1 = bb := rfl
    rw [e0]
    by_cases hz : m = 0
    · simp only [if_pos hz]
      rw [wi (by omega) (by omega)]
      refine Ev.succ ?_
      simp only [cmp_Or_int_l0, Int.zero_add, if_pos (show (1 : Int) < (([m, bb] : List Int).length : Int) by simp), if_pos (show (0 : Int) ≤ 1 by omega), e1]
      by_cases hz2 : bb = 0
      · simp only [if_pos hz2]
        rw [wi (by omega) (by omega)]
        refine Ev.succ ?_
        simp only [cmp_Or_int_l0, if_neg (show ¬ (1 : Int) + 1 < (([m, bb] : List Int).length : Int) by simp)]
        rw [hz2]; exact Ev.pure _
      · simp only [if_neg hz2]; exact Ev.pure _
    · simp only [if_neg hz]; exact Ev.pure _
  refine ⟨if m = 0 then bb else m, ?_, ?_, ?_⟩
  · unfold impl_compareKeys
    rw [h1, h2]
    simp only [Option.bind_some]
    exact Ev.bind hor (Ev.pure _)
  · unfold kLess
    subst hm
    by_cases h : a.Map < b.Map
    · simp [h]
    · by_cases g : a.Map > b.Map
      · have : ¬ a.Map = b.Map := by omega
        simp [h, g, this]
      · have : a.Map = b.Map := by omega
        simp [h, g, this, c1]
  · unfold kSame
    subst hm
    by_cases h : a.Map < b.Map
    · have : ¬ a.Map = b.Map := by omega
      simp [h, this]
    · by_cases g : a.Map > b.Map
      · have : ¬ a.Map = b.Map := by omega
        simp [h, g, this]
      · have : a.Map = b.Map := by omega
        simp [h, g, this, c2]

/-! ### keys that are right -/
def okc (s : List UInt8) (j : Nat) : Prop := (97 ≤ bt s j ∧ bt s j ≤ 122) ∨ bt s j = 45
def nameOk (s : List UInt8) : Prop := (1 ≤ s.length ∧ s.length ≤ 20) ∧ ∀ j, j < s.length → okc s j
def keyOk (k : T_impl_Key) : Prop := (1 ≤ k.Map ∧ k.Map ≤ 9) ∧ (1 ≤ k.Keys.length ∧ k.Keys.length ≤ 6) ∧ nameOk k.Name
def Kat (l : List T_impl_Key) (j : Nat) : T_impl_Key := rdA z_impl_Key l (j : Int)
theorem Kat_eq (l : List T_impl_Key) (j : Nat) : rdA z_impl_Key l (j : Int) = Kat l j := rfl
def Adj (l : List T_impl_Key) (j : Nat) : Prop := keyOk (Kat l j) ∧ (0 < j → kLess (Kat l (j - 1)) (Kat l j))
def Right (l : List T_impl_Key) : Prop := l.length ≤ 60 ∧ ∀ j, j < l.length → Adj l j
def Kb (l : List T_impl_Key) : Prop := ∀ k ∈ l, k.Keys.length ≤ 10000 ∧ k.Name.length ≤ 10000
theorem Kat_get {l : List T_impl_Key} {j : Nat} (h : j < l.length) : Kat l j = l[j] := rdA_get _ _ _ h
theorem Kb.at {l : List T_impl_Key} (h : Kb l) {j : Nat} (hj : j < l.length) : (Kat l j).Keys.length ≤ 10000 ∧ (Kat l j).Name.length ≤ 10000 := by
  rw [Kat_get hj]; exact h _ (List.getElem_mem hj)

theorem name_l0_ex (s : List UInt8) (hs : s.length ≤ 10000) : ∀ (m i : Nat), i + m = s.length → ∃ b, Ev (fun k => spec_l07Name_l0 k (i : Int) s) b ∧ (b = true ↔ ∀ j, i ≤ j → j < s.length → okc s j)
  | 0, i, hi => Ev.succ_ex (by
    simp only [spec_l07Name_l0, if_neg (show ¬ (i : Int) < (s.length : Int) by omega)]
    exact Ev.pure_ex ⟨fun _ j h1 h2 => by omega, fun _ => rfl⟩)
  | m + 1, i, hi => Ev.succ_ex (by
    have ih := name_l0_ex s hs m (i + 1) (by omega)
    have hw : IntKind.i64.wrap ((i : Int) + 1) = ((i + 1 : Nat) : Int) := by rw [wi (by omega) (by omega)]; omega
    simp only [spec_l07Name_l0, if_pos (show (i : Int) < (s.length : Int) by omega), if_pos (show (0 : Int) ≤ (i : Int) by omega), hw]
    have step : okc s i → ∃ b, Ev (fun k => spec_l07Name_l0 k ((i + 1 : Nat) : Int) s) b ∧ (b = true ↔ ∀ j, i ≤ j → j < s.length → okc s j) := fun hc => by
      obtain ⟨b, e, hb⟩ := ih
      refine ⟨b, e, hb.trans ⟨fun h j h1 h2 => ?_, fun h j h1 h2 => h j (by omega) h2⟩⟩
      by_cases e : j = i
      · rw [e]; exact hc
      · exact h j (by omega) h2
    have stop : ¬ okc s i → ∃ b, Ev (fun k => some false) b ∧ (b = true ↔ ∀ j, i ≤ j → j < s.length → okc s j) := fun hc =>
      Ev.pure_ex ⟨fun h => (by cases h), fun h => absurd (h i (Nat.le_refl _) (by omega)) hc⟩
    refine Ev.ite_ex (fun h1 => Ev.ite_ex (fun h2 => step (.inl ⟨h1, h2⟩)) fun h2 => Ev.ite_ex (fun h3 => step (.inr h3)) fun h3 => stop ?_) fun h1 => Ev.ite_ex (fun h3 => step (.inr h3)) fun h3 => stop ?_
    · rintro (h | h)
      · exact h2 h.2
      · exact h3 h
    · rintro (h | h)
      · exact h1 h.1
      · exact h3 h)
theorem specName_ex (s : List UInt8) (hs : s.length ≤ 10000) : ∃ b, Ev (fun k => spec_l07Name k s) b ∧ (b = true ↔ nameOk s) := by
  unfold spec_l07Name nameOk
  refine Ev.ite_ex (fun h => Ev.pure_ex ⟨fun h => (by cases h), fun g => by omega⟩) fun h => Ev.ite_ex (fun h => Ev.pure_ex ⟨fun h => (by cases h), fun g => by omega⟩) fun g => ?_
  obtain ⟨b, e, hb⟩ := name_l0_ex s hs s.length 0 (by omega)
  exact ⟨b, e, hb.trans ⟨fun h => ⟨by omega, fun j => h j (by omega)⟩, fun h j _ => h.2 j⟩⟩
theorem within_ev (x a b : Int) : impl_within x a b = some (decide (a ≤ x ∧ x ≤ b)) := by
  unfold impl_within
  by_cases h : a ≤ x
  · simp [h]
  · simp [h]
theorem keyName_l0_ex (s : List UInt8) (hs : s.length ≤ 10000) : ∀ (m i : Nat), i + m = s.length → ∃ b, Ev (fun k => impl_isKeyName_l0 k (i : Int) s) b ∧ (b = true ↔ (1 ≤ s.length ∧ s.length ≤ 20) ∧ ∀ j, i ≤ j → j < s.length → okc s j)
  | 0, i, hi => Ev.succ_ex (by
    simp only [impl_isKeyName_l0, if_neg (show ¬ (i : Int) < (s.length : Int) by omega), within_ev, Option.bind_some]
    exact Ev.pure_ex ⟨fun h => ⟨by have := of_decide_eq_true h; omega, fun j h1 h2 => by omega⟩, fun h => decide_eq_true (by omega)⟩)
  | m + 1, i, hi => Ev.succ_ex (by
    have ih := keyName_l0_ex s hs m (i + 1) (by omega)
    have hw : IntKind.i64.wrap ((i : Int) + 1) = ((i + 1 : Nat) : Int) := by rw [wi (by omega) (by omega)]; omega
    simp only [impl_isKeyName_l0, if_pos (show (i : Int) < (s.length : Int) by omega), if_pos (show (0 : Int) ≤ (i : Int) by omega), hw]
    have step : okc s i → ∃ b, Ev (fun k => impl_isKeyName_l0 k ((i + 1 : Nat) : Int) s) b ∧ (b = true ↔ (1 ≤ s.length ∧ s.length ≤ 20) ∧ ∀ j, i ≤ j → j < s.length → okc s j) := fun hc => by
      obtain ⟨b, e, hb⟩ := ih
      refine ⟨b, e, hb.trans ⟨fun h => ⟨h.1, fun j h1 h2 => ?_⟩, fun h => ⟨h.1, fun j h1 h2 => h.2 j (by omega) h2⟩⟩⟩
      by_cases e : j = i
      · rw [e]; exact hc
      · exact h.2 j (by omega) h2
    have stop : ¬ okc s i → ∃ b, Ev (fun k => some false) b ∧ (b = true ↔ (1 ≤ s.length ∧ s.length ≤ 20) ∧ ∀ j, i ≤ j → j < s.length → okc s j) := fun hc =>
      Ev.pure_ex ⟨fun h => (by cases h), fun h => absurd (h.2 i (Nat.le_refl _) (by omega)) hc⟩
    refine Ev.ite_ex (fun h1 => Ev.ite_ex (fun h2 => step (.inl ⟨h1, h2⟩)) fun h2 => Ev.ite_ex (fun h3 => step (.inr h3)) fun h3 => stop ?_) fun h1 => Ev.ite_ex (fun h3 => step (.inr h3)) fun h3 => stop ?_
    · rintro (h | h)
      · exact h2 h.2
      · exact h3 h
    · rintro (h | h)
      · exact h1 h.1
      · exact h3 h)
theorem keyRight_ex (x : T_impl_Key) (hs : x.Name.length ≤ 10000) : ∃ b, Ev (fun k => impl_keyRight k x) b ∧ (b = true ↔ keyOk x) := by
  unfold impl_keyRight keyOk nameOk impl_isKeyName
  simp only [within_ev, Option.bind_some]
  refine Ev.ite_ex (fun h1 => Ev.ite_ex (fun h2 => ?_) fun h2 => Ev.pure_ex ⟨fun h => (by cases h), fun h => absurd (decide_eq_true (by omega)) h2⟩) fun h1 => Ev.pure_ex ⟨fun h => (by cases h), fun h => absurd (decide_eq_true h.1) h1⟩
  have h1 := of_decide_eq_true h1
  have h2 := of_decide_eq_true h2
  obtain ⟨b, e, hb⟩ := keyName_l0_ex x.Name hs x.Name.length 0 (by omega)
  exact ⟨b, Ev.bind e (Ev.pure _), hb.trans ⟨fun h => ⟨h1, by omega, h.1, fun j => h.2 j (by omega)⟩, fun h => ⟨h.2.2.1, fun j _ => h.2.2.2 j⟩⟩⟩

theorem specRight_l0_ex (l : List T_impl_Key) (hk : Kb l) (hl : l.length ≤ 100000) : ∀ (m i : Nat), i + m = l.length → ∃ b, Ev (fun k => spec_KeysRight_l0 k (i : Int) l) b ∧ (b = true ↔ ∀ j, i ≤ j → j < l.length → Adj l j)
  | 0, i, hi => Ev.succ_ex (by
    simp only [spec_KeysRight_l0, if_neg (show ¬ (i : Int) < (l.length : Int) by omega)]
    exact Ev.pure_ex ⟨fun _ j h1 h2 => by omega, fun _ => rfl⟩)
  | m + 1, i, hi => Ev.succ_ex (by
    have ih := specRight_l0_ex l hk hl m (i + 1) (by omega)
    have hw : IntKind.i64.wrap ((i : Int) + 1) = ((i + 1 : Nat) : Int) := by rw [wi (by omega) (by omega)]; omega
    simp only [spec_KeysRight_l0, Kat_eq, if_pos (show (i : Int) < (l.length : Int) by omega), if_pos (show (0 : Int) ≤ (i : Int) by omega), hw]
    have stop : ¬ Adj l i → ∃ b, Ev (fun k => some false) b ∧ (b = true ↔ ∀ j, i ≤ j → j < l.length → Adj l j) := fun hc =>
      Ev.pure_ex ⟨fun h => (by cases h), fun h => absurd (h i (Nat.le_refl _) (by omega)) hc⟩
    have step : Adj l i → ∃ b, Ev (fun k => spec_KeysRight_l0 k ((i + 1 : Nat) : Int) l) b ∧ (b = true ↔ ∀ j, i ≤ j → j < l.length → Adj l j) := fun hc => by
      obtain ⟨b, e, hb⟩ := ih
      refine ⟨b, e, hb.trans ⟨fun h j h1 h2 => ?_, fun h j h1 h2 => h j (by omega) h2⟩⟩
      by_cases e : j = i
      · rw [e]; exact hc
      · exact h j (by omega) h2
    refine Ev.ite_ex (fun h => stop fun g => by have := g.1.1; omega) fun h1 => Ev.ite_ex (fun h => stop fun g => by have := g.1.1; omega) fun h2 => Ev.ite_ex (fun h => stop fun g => by have := g.1.2.1; omega) fun h3 => Ev.ite_ex (fun h => stop fun g => by have := g.1.2.1; omega) fun h4 => ?_
    refine Ev.bind_ex (specName_ex _ (hk.at (by omega)).2) fun b hb => Ev.ite_ex (fun h5 => ?_) fun h5 => stop fun g => h5 (hb.2 g.1.2.2)
    have hko : keyOk (Kat l i) := ⟨⟨by omega, by omega⟩, ⟨by omega, by omega⟩, hb.1 h5⟩
    refine Ev.ite_ex (fun h6 => ?_) fun h6 => step ⟨hko, fun h => by omega⟩
    have hw2 : IntKind.i64.wrap ((i : Int) - 1) = ((i - 1 : Nat) : Int) := by rw [wi (by omega) (by omega)]; omega
    simp only [hw2, if_pos (show (0 : Int) ≤ ((i - 1 : Nat) : Int) by omega), if_pos (show ((i - 1 : Nat) : Int) < (l.length : Int) by omega), Kat_eq, before_ev, Option.bind_some]
    exact Ev.ite_ex (fun h7 => step ⟨hko, fun _ => of_decide_eq_true h7⟩) fun h7 => stop fun g => h7 (decide_eq_true (g.2 (by omega))))
theorem specRight_ex (l : List T_impl_Key) (hk : Kb l) (hl : l.length ≤ 100000) : ∃ b, Ev (fun k => spec_KeysRight k l) b ∧ (b = true ↔ Right l) := by
  unfold spec_KeysRight Right
  refine Ev.ite_ex (fun h => Ev.pure_ex ⟨fun h => (by cases h), fun g => by omega⟩) fun h => ?_
  obtain ⟨b, e, hb⟩ := specRight_l0_ex l hk hl l.length 0 (by omega)
  exact ⟨b, e, hb.trans ⟨fun h => ⟨by omega, fun j => h j (by omega)⟩, fun h j _ => h.2 j⟩⟩
theorem implRight_l0_ex (l : List T_impl_Key) (hk : Kb l) (hl : l.length ≤ 100000) : ∀ (m i : Nat), i + m = l.length → ∃ b, Ev (fun k => impl_KeysRight_l0 k (i : Int) l) b ∧ (b = true ↔ l.length ≤ 60 ∧ ∀ j, i ≤ j → j < l.length → Adj l j)
  | 0, i, hi => Ev.succ_ex (by
    simp only [impl_KeysRight_l0, if_neg (show ¬ (i : Int) < (l.length : Int) by omega)]
    exact Ev.pure_ex ⟨fun h => ⟨by have := of_decide_eq_true h; omega, fun j h1 h2 => by omega⟩, fun h => decide_eq_true (by omega)⟩)
  | m + 1, i, hi => Ev.succ_ex (by
    have ih := implRight_l0_ex l hk hl m (i + 1) (by omega)
    have hw : IntKind.i64.wrap ((i : Int) + 1) = ((i + 1 : Nat) : Int) := by rw [wi (by omega) (by omega)]; omega
    simp only [impl_KeysRight_l0, Kat_eq, if_pos (show (i : Int) < (l.length : Int) by omega), if_pos (show (0 : Int) ≤ (i : Int) by omega), hw]
    have stop : ¬ Adj l i → ∃ b, Ev (fun k => some false) b ∧ (b = true ↔ l.length ≤ 60 ∧ ∀ j, i ≤ j → j < l.length → Adj l j) := fun hc =>
      Ev.pure_ex ⟨fun h => (by cases h), fun h => absurd (h.2 i (Nat.le_refl _) (by omega)) hc⟩
    have step : Adj l i → ∃ b, Ev (fun k => impl_KeysRight_l0 k ((i + 1 : Nat) : Int) l) b ∧ (b = true ↔ l.length ≤ 60 ∧ ∀ j, i ≤ j → j < l.length → Adj l j) := fun hc => by
      obtain ⟨b, e, hb⟩ := ih
      refine ⟨b, e, hb.trans ⟨fun h => ⟨h.1, fun j h1 h2 => ?_⟩, fun h => ⟨h.1, fun j h1 h2 => h.2 j (by omega) h2⟩⟩⟩
      by_cases e : j = i
      · rw [e]; exact hc
      · exact h.2 j (by omega) h2
    refine Ev.bind_ex (keyRight_ex _ (hk.at (by omega)).2) fun b hb => Ev.ite_ex (fun h5 => ?_) fun h5 => stop fun g => h5 (hb.2 g.1)
    have hko : keyOk (Kat l i) := hb.1 h5
    refine Ev.ite_ex (fun h6 => ?_) fun h6 => step ⟨hko, fun h => by omega⟩
    have hw2 : IntKind.i64.wrap ((i : Int) - 1) = ((i - 1 : Nat) : Int) := by rw [wi (by omega) (by omega)]; omega
    simp only [hw2, if_pos (show (0 : Int) ≤ ((i - 1 : Nat) : Int) by omega), if_pos (show ((i - 1 : Nat) : Int) < (l.length : Int) by omega), Kat_eq]
    refine Ev.bind_ex (compare_ex _ _) fun c hc => Ev.ite_ex (fun h7 => stop fun g => ?_) fun h7 => step ⟨hko, fun _ => hc.1.1 (by omega)⟩
    have := hc.1.2 (g.2 (by omega)); omega)
theorem implRight_ex (l : List T_impl_Key) (hk : Kb l) (hl : l.length ≤ 100000) : ∃ b, Ev (fun k => impl_KeysRight k l) b ∧ (b = true ↔ Right l) := by
  unfold impl_KeysRight Right
  obtain ⟨b, e, hb⟩ := implRight_l0_ex l hk hl l.length 0 (by omega)
  exact ⟨b, e, hb.trans ⟨fun h => ⟨h.1, fun j => h.2 j (by omega)⟩, fun h => ⟨h.1, fun j _ => h.2 j⟩⟩⟩
theorem Right.less {l : List T_impl_Key} (h : Right l) {i j : Nat} (hij : i < j) (hj : j < l.length) : kLess (Kat l i) (Kat l j) := by
  obtain ⟨d, rfl⟩ : ∃ d, j = i + 1 + d := ⟨j - i - 1, by omega⟩
  induction d with
  | zero => exact (h.2 (i + 1) hj).2 (by omega)
  | succ d ih => exact (ih (by omega) (by omega)).trans ((h.2 (i + 1 + (d + 1)) hj).2 (by omega))
end Go.Proofs.Ytloojlhlfhmoeaa
