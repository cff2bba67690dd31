/- The engine, part 12: regions that draw their order and do more than read. S: what the loads that may come up in any order rest on; X: the operations behind which S need not hold any more (each of them waits for all those loads). -/
import Derived.Test.YtnhnipdanpcbeaaEng11
namespace Go.Proofs.Ytnhnipdanpcbeaa.Eng
open Go

section
variable {P : Program} {ops : Array Oper} {Q : Exit → Act → World → Prop} {S : World → Prop} {X : List Nat}
/-- Does an operation change nothing and look at no cell? -/
def heapless (o : Op) : Bool := match o with
  | .load .. => false
  | _ => true
theorem lz_const {P : Program} {L : Fra} {o : Oper} {ann : Option Value} {v : Value} {ob : World → Prop} (h : lz P L o ann = some (v, ob)) (hi : heapless o.op = true) (w w' : World) (hw : ob w) : ob w' := by
  cases hop : o.op <;> rw [hop] at hi <;> first
    | (cases hi; done)
    | (simp only [lz, hop] at h
       repeat' split at h
       all_goals first | (cases h; done) | (simp only [Option.some.injEq, Prod.mk.injEq] at h; obtain ⟨_, rfl⟩ := h; exact hw))
theorem lzA_const {P : Program} {L : Fra} {o : Oper} {ann : Option Value} {v : Value} {obs : List (World → Prop)} (h : lzA P L o ann = some (v, obs)) (hi : heapless o.op = true) (w w' : World) (hw : allOb obs w) : allOb obs w' := by
  unfold lzA at h
  split at h
  · cases h
  · rename_i u ob hl
    split at h
    · cases h
      exact lz_const hl hi w w' hw
    · split at h <;> cases h
      · exact hw
      · exact ⟨lz_const hl hi w w' hw.1, hw.2⟩
    · split at h <;> cases h
      · trivial
      · exact lz_const hl hi w w' hw
/-- Has one of X come up? -/
def lst (X : List Nat) (listed : Array Bool) : Bool := X.any fun x => listed.getD x true
theorem lst_mono {listed : Array Bool} {i : Nat} (h : lst X listed = true) : lst X (listed.setIfInBounds i true) = true := by
  unfold lst at *
  rw [List.any_eq_true] at *
  obtain ⟨x, hx, h⟩ := h
  refine ⟨x, hx, ?_⟩
  by_cases e : i = x
  · subst e
    rcases Nat.lt_or_ge i listed.size with hl | hl
    · simp [Array.getD_eq_getD_getElem?, hl]
    · simp [Array.getD_eq_getD_getElem?, hl]
  · rw [getD_set_ne true e]; exact h
theorem lst_back {listed : Array Bool} {i : Nat} (hi : X.contains i = false) (h : lst X (listed.setIfInBounds i true) = true) : lst X listed = true := by
  unfold lst at *
  rw [List.any_eq_true] at *
  obtain ⟨x, hx, h⟩ := h
  refine ⟨x, hx, ?_⟩
  have e : i ≠ x := fun e => by subst e; have : X.contains i = true := by simpa using hx
                                rw [this] at hi; cases hi
  rwa [getD_set_ne true e] at h
def wpAnyX (P : Program) (ops : Array Oper) (Q : Exit → Act → World → Prop) (S : World → Prop) (X : List Nat) : Nat → Array Bool → Act → World → Prop
  | 0, listed, a, w => Region.ready .any ops listed = [] ∧ Q .normal a w
  | fuel + 1, listed, a, w =>
    (Region.ready .any ops listed = [] → Q .normal a w) ∧
    ∀ i ∈ Region.ready .any ops listed, wpOp P ops Q i (fun a' w' => (lst X (listed.setIfInBounds i true) = true ∨ S w') ∧ wpAnyX P ops Q S X fuel (listed.setIfInBounds i true) a' w') a w
theorem wpAny_of_X : ∀ (fuel : Nat) (listed : Array Bool) (a : Act) (w : World), wpAnyX P ops Q S X fuel listed a w → wpAny P .any ops Q fuel listed a w
  | 0, _, _, _, h => h
  | fuel + 1, _, _, _, h => ⟨h.1, fun i hi => wpOp_mono (fun a' w' h' => wpAny_of_X fuel _ a' w' h'.2) (h.2 i hi)⟩
/-- The operations that wait, over others, for i. -/
def blk (ops : Array Oper) (i : Nat) : List Nat :=
  (List.range ops.size).foldl (fun l j => if Nat.beq j i then j :: l else match ops[j]? with
    | some o => if o.after.any (fun e => Region.binds .any e && l.contains e.on) then j :: l else l
    | none => l) []
/-- Each of B but i waits at once for one of B; none of B has come up. -/
def blkOk (ops : Array Oper) (i : Nat) (B : List Nat) (listed : Array Bool) : Bool :=
  B.contains i && B.all fun j => !(listed.getD j true) && (Nat.beq j i || match ops[j]? with
    | some o => o.after.any (fun e => Region.binds .any e && B.contains e.on)
    | none => true)
theorem blk_not_ready {i j : Nat} {B : List Nat} {listed : Array Bool} (h : blkOk ops i B listed = true) (hj : B.contains j = true) (hne : j ≠ i) : j ∉ Region.ready .any ops listed := fun hr => by
  unfold blkOk at h
  rw [Bool.and_eq_true, List.all_eq_true] at h
  have hb := h.2 j (by simpa using hj)
  rw [Bool.and_eq_true, Bool.or_eq_true] at hb
  obtain ⟨hun, oj, hoj, hall⟩ := mem_ready.1 hr
  rcases hb.2 with hb2 | hb2
  · exact hne (Nat.eq_of_beq_eq_true hb2)
  · rw [hoj] at hb2
    obtain ⟨e, he, hb3⟩ := Array.any_eq_true'.1 hb2
    rw [Bool.and_eq_true] at hb3
    have hm := h.2 e.on (by simpa using hb3.2)
    rw [Bool.and_eq_true] at hm
    have h1 := hall e he hb3.1
    have h2 := hm.1
    simp only [Bool.not_eq_true'] at h2
    rcases Nat.lt_or_ge e.on listed.size with hl | hl
    · simp only [Array.getD_eq_getD_getElem?, Array.getElem?_eq_getElem hl, Option.getD_some] at h1 h2
      rw [h1] at h2; cases h2
    · simp only [Array.getD_eq_getD_getElem?, Array.getElem?_eq_none hl, Option.getD_none] at h1
      cases h1
theorem blkOk_set {i j : Nat} {B : List Nat} {listed : Array Bool} (h : blkOk ops i B listed = true) (hj : B.contains j = false) : blkOk ops i B (listed.setIfInBounds j true) = true := by
  unfold blkOk at *
  rw [Bool.and_eq_true, List.all_eq_true] at *
  refine ⟨h.1, fun m hm => ?_⟩
  have := h.2 m hm
  have hne : j ≠ m := fun e => by subst e; have : B.contains j = true := by simpa using hm
                                  rw [this] at hj; cases hj
  rw [getD_set_ne true hne]
  exact this
/-- May i be taken first? Those that haven't come up wait for it, or are apart from it (and, if it looks at the heap, are none of X). -/
def okX (ops : Array Oper) (X B : List Nat) (listed : Array Bool) (i : Nat) : Bool :=
  match ops[i]? with
  | none => false
  | some oi => !(X.contains i) && (heapless oi.op || !(lst X listed)) && (List.range ops.size).all fun j => Nat.beq j i || listed.getD j true || B.contains j || match ops[j]? with
    | some oj => oi.apart ops oj && (heapless oi.op || !(X.contains j))
    | none => true
theorem wpAnyX_first {i : Nat} {oi : Oper} {v : Value} {B : List Nat} (hi : ops[i]? = some oi) (hsel : Region.noSelect ops = true) (hQ : ∀ c a w, Q (.panic c) (a.put oi.dst v) w → Q (.panic c) a w) :
    ∀ (fuel : Nat) (listed : Array Bool) (a : Act) (w : World), okX ops X B listed i = true → blkOk ops i B listed = true → i ∈ Region.ready .any ops listed → YieldsIf P ops (fun w => heapless oi.op = true ∨ S w) oi v a → (lst X listed = true ∨ S w) →
      wpAnyX P ops Q S X fuel (listed.setIfInBounds i true) (a.put oi.dst v) w → wpAnyX P ops Q S X (fuel + 1) listed a w := by
  have hs := Region.noSelect_spec hsel
  have hT : ∀ (listed : Array Bool) (w : World), okX ops X B listed i = true → (lst X listed = true ∨ S w) → (heapless oi.op = true ∨ S w) := fun listed w hok hC => by
    unfold okX at hok
    rw [hi] at hok
    simp only [Bool.and_eq_true, Bool.or_eq_true, Bool.not_eq_true'] at hok
    rcases hok.1.2 with h | h
    · exact .inl h
    · rcases hC with h2 | h2
      · rw [h] at h2; cases h2
      · exact .inr h2
  have hnX : ∀ (listed : Array Bool), okX ops X B listed i = true → X.contains i = false := fun listed hok => by
    unfold okX at hok
    rw [hi] at hok
    simp only [Bool.and_eq_true, Bool.or_eq_true, Bool.not_eq_true'] at hok
    exact hok.1.1
  have hXi : ∀ (fuel : Nat) (listed : Array Bool) (a : Act) (w : World), okX ops X B listed i = true → YieldsIf P ops (fun w => heapless oi.op = true ∨ S w) oi v a → (lst X listed = true ∨ S w) → wpAnyX P ops Q S X fuel (listed.setIfInBounds i true) (a.put oi.dst v) w →
      wpOp P ops Q i (fun a' w' => (lst X (listed.setIfInBounds i true) = true ∨ S w') ∧ wpAnyX P ops Q S X fuel (listed.setIfInBounds i true) a' w') a w :=
    fun fuel listed a w hok hy hC H => hy.wpOp hi (hT listed w hok hC) ⟨hC.imp lst_mono id, H⟩
  intro fuel
  induction fuel with
  | zero =>
    intro listed a w hok _ hr hy hC H
    refine ⟨fun h => (by rw [h] at hr; cases hr), fun j hj => ?_⟩
    by_cases hji : j = i
    · subst hji; exact hXi 0 listed a w hok hy hC H
    · have := ready_mono hj hji
      rw [H.1] at this
      cases this
  | succ fuel ih =>
    intro listed a w hok hB hr hy hC H
    refine ⟨fun h => (by rw [h] at hr; cases hr), fun j hj => ?_⟩
    by_cases hji : j = i
    · subst hji; exact hXi (fuel + 1) listed a w hok hy hC H
    · have h1 := H.2 j (ready_mono hj hji)
      obtain ⟨hjun, oj, hoj, hall⟩ := mem_ready.1 hj
      have hnB : B.contains j = false := by
        cases e : B.contains j with
        | false => rfl
        | true => exact (blk_not_ready hB e hji hj).elim
      have hjx : oi.apart ops oj = true ∧ (heapless oi.op = true ∨ X.contains j = false) := by
        have h0 := hok
        unfold okX at h0
        rw [hi] at h0
        simp only [Bool.and_eq_true, List.all_eq_true, List.mem_range] at h0
        have h2 := h0.2 j (Array.getElem?_eq_some_iff.1 hoj).1
        simp only [hoj, hnB, hjun, Bool.or_eq_true, Bool.and_eq_true, Bool.not_eq_true', Bool.or_false, Bool.false_eq_true, or_false] at h2
        rcases h2 with h2 | h2
        · exact absurd (Nat.eq_of_beq_eq_true h2) hji
        · exact h2
      have h2 := wpOp_putIf hoj hjx.1 (fun cs b => hs i oi cs b hi) (fun cs b => hs j oj cs b hoj) hQ hy h1
      have hok' : okX ops X B (listed.setIfInBounds j true) i = true := by
        have h0 := hok
        unfold okX at h0 ⊢
        rw [hi] at h0 ⊢
        simp only [Bool.and_eq_true, List.all_eq_true, List.mem_range] at h0 ⊢
        refine ⟨⟨h0.1.1, ?_⟩, fun m hm => ?_⟩
        · have h5 := h0.1.2
          simp only [Bool.or_eq_true, Bool.not_eq_true'] at h5 ⊢
          rcases h5 with h5 | h5
          · exact .inl h5
          · rcases hjx.2 with h6 | h6
            · exact .inl h6
            · refine .inr ?_
              cases e : lst X (listed.setIfInBounds j true) with
              | false => rfl
              | true => rw [lst_back h6 e] at h5; cases h5
        · have h3 := h0.2 m hm
          by_cases hjm : j = m
          · subst hjm
            rw [show (listed.setIfInBounds j true).getD j true = true by
              rcases Nat.lt_or_ge j listed.size with hl | hl
              · simp [Array.getD_eq_getD_getElem?, hl]
              · simp [Array.getD_eq_getD_getElem?, hl]]
            simp
          · rw [getD_set_ne true hjm]; exact h3
      refine wpOp_mono (fun a' w' h3 => ?_) h2
      have hC' : lst X (listed.setIfInBounds j true) = true ∨ S w' := by
        rcases h3.2.1 with h4 | h4
        · rw [Array.setIfInBounds_comm _ _ (Ne.symm hji)] at h4
          exact .inl (lst_back (hnX listed hok) h4)
        · exact .inr h4
      refine ⟨hC', ih (listed.setIfInBounds j true) a' w' hok' (blkOk_set hB hnB) (ready_mono hr (Ne.symm hji)) h3.1 hC' ?_⟩
      rw [Array.setIfInBounds_comm _ _ hji]
      exact h3.2.2
theorem wpAnyX_done {listed : Array Bool} {a : Act} {w : World} (hr : Region.ready .any ops listed = []) (h : Q .normal a w) : ∀ fuel, wpAnyX P ops Q S X fuel listed a w
  | 0 => ⟨hr, h⟩
  | _ + 1 => ⟨fun _ => h, by rw [hr]; simp⟩
/-- May these be taken, one behind the other? -/
def takesX (ops : Array Oper) (X : List Nat) : List Nat → Array Bool → Bool
  | [], _ => true
  | i :: r, listed => match okX ops X (blk ops i) listed i, blkOk ops i (blk ops i) listed, (Region.ready .any ops listed).contains i with
    | true, true, true => takesX ops X r (listed.setIfInBounds i true)
    | _, _, _ => false
theorem any_runX {n : Nat} {w : World} {ann : Ann} {fuel : Nat} (hs : Region.noSelect ops = true) :
    ∀ (l : List Nat) (L L' : Fra) (obs : List (World → Prop)) (a : Act) (listed : Array Bool), runL P n ops l L ann = some (L', obs) → takesX ops X l listed = true → FrOk a n L → (lst X listed = true ∨ S w) →
      (∀ w', S w' → allOb obs w') → allOb obs w → (∀ a', FrOk a' n L' → wpAnyX P ops (NoP Q) S X fuel (setAll l listed) a' w) → wpAnyX P ops (NoP Q) S X (fuel + l.length) listed a w
  | [], L, L', obs, a, listed, h, _, ha, _, _, _, hk => by
    cases h
    exact hk a ha
  | i :: r, L, L', obs, a, listed, h, ht, ha, hC, hw, hc, hk => by
    simp only [runL] at h
    simp only [takesX] at ht
    split at ht
    case h_2 => cases ht
    rename_i hf hb hr0
    have hr0' : i ∈ Region.ready .any ops listed := by simpa using hr0
    split at h
    · cases h
    · rename_i o ho
      split at h
      · cases h
      · rename_i hd
        have hd' := dstOk_spec hd
        split at h
        · cases h
        · rename_i hg
          have hg' := gd_wanted hg ha
          refine wpAnyX_first ho hs (fun _ _ _ h => h) (v := undef) _ _ _ _ hf hb hr0' (.inr ⟨hg', rfl⟩) hC ?_
          exact any_runX hs r _ _ _ _ _ h ht (ha.put hd' undef) (hC.imp lst_mono id) hw hc hk
        · rename_i hg
          have hg' := gd_wanted hg ha
          split at h
          · cases h
          · rename_i v ob hl
            split at h
            · cases h
            · rename_i L'' obs' hr
              cases h
              have hc' := allOb_append.1 hc
              refine wpAnyX_first ho hs (fun _ _ _ h => h) (v := v) _ _ _ _ hf hb hr0' (.inl ⟨hg', fun w' h' => lzA_sound hl ha (h'.elim (fun e => lzA_const hl e w w' hc'.1) (fun h' => (allOb_append.1 (hw w' h')).1))⟩) hC ?_
              exact any_runX hs r _ _ _ _ _ hr ht (ha.put hd' v) (hC.imp lst_mono id) (fun w' h' => (allOb_append.1 (hw w' h')).2) hc'.2 hk
/-- 'S' may be exchanged for one that follows from what is at hand, where no operation that X names is left out of account. -/
theorem wpAnyX_S {S' : World → Prop} (h : ∀ w, S' w → S w) : ∀ (fuel : Nat) (listed : Array Bool) (a : Act) (w : World), wpAnyX P ops Q S' X fuel listed a w → wpAnyX P ops Q S X fuel listed a w
  | 0, _, _, _, e => e
  | fuel + 1, _, _, _, e => ⟨e.1, fun i hi => wpOp_mono (fun a' w' h' => ⟨h'.1.imp id (h w'), wpAnyX_S h fuel _ a' w' h'.2⟩) (e.2 i hi)⟩
end
section
variable {P : Program} {E : World} {n : Nat} {L : Fra} {I : Imm} {Ms : List Seg} {Q : Exit → Act → World → Prop} {K : Act → World → Prop} {ops : Array Oper} {S : World → Prop} {X : List Nat} {fuel : Nat} {listed : Array Bool}
theorem at_x {id : Nat} (hm : P.follows .mixedOrders = true) (S : World → Prop) (X : List Nat) (h : At E n L I Ms (wpAnyX P ops (NoP Q) S X ops.size (Array.replicate ops.size false))) :
    At E n L I Ms ((Code.region id ops true).wp P Q) := fun a _ ha hs => wp_noP (wp_region_any hm (wpAny_of_X _ _ _ _ (h a _ ha (hs.drew _))))
theorem at_xseg (l : List Nat) (fuel' : Nat) (listed' : Array Bool) (hf : fuel' + l.length = fuel) (hl : setAll l listed = listed') (ann : Ann) (ks : List Nat) {L2 : Fra} {obs : List (World → Prop)}
    (hsel : Region.noSelect ops = true) (ht : takesX ops X l listed = true) (h : runK P n ops l L ann ks = some (L2, obs)) (hS : lst X listed = true ∨ ∀ w, Sat E w I Ms → S w) (ho : ∀ w, S w → allOb obs w) (hc : ∀ w, Sat E w I Ms → allOb obs w)
    (hn : At E n L2 I Ms (wpAnyX P ops (NoP Q) S X fuel' listed')) : At E n L I Ms (wpAnyX P ops (NoP Q) S X fuel listed) := fun a w ha hs => by
  obtain ⟨L', hr, rfl⟩ := runK_spec h
  subst hf hl
  exact any_runX (P := P) (Q := Q) hsel l L L' obs a listed hr ht ha (hS.imp id fun h => h w hs) ho (hc w hs) (fun a' ha' => hn a' w (ha'.keep ks) hs)
theorem at_xend (hr : Region.ready .any ops listed = []) (h : At E n L I Ms (Q .normal)) : At E n L I Ms (wpAnyX P ops (NoP Q) S X fuel listed) := fun a w ha hs => wpAnyX_done (P := P) (Q := NoP Q) (S := S) (X := X) hr (h a w ha hs) fuel
theorem at_xall (rs : List Nat) (hr : Region.ready .any ops listed = rs) (hne : rs ≠ [])
    (h : ∀ i ∈ rs, At E n L I Ms (fun a w => wpOp P ops (NoP Q) i (fun a' w' => (lst X (listed.setIfInBounds i true) = true ∨ S w') ∧ wpAnyX P ops (NoP Q) S X fuel (listed.setIfInBounds i true) a' w') a w)) :
    At E n L I Ms (wpAnyX P ops (NoP Q) S X (fuel + 1) listed) := fun a w ha hs => ⟨fun h0 => absurd (hr ▸ h0) hne, fun i hi => h i (hr ▸ hi) a w ha hs⟩
theorem at_x1 (fuel' i : Nat) (listed' : Array Bool) {o : Oper} (hf : fuel' + 1 = fuel) (hr : Region.ready .any ops listed = [i]) (hl : listed.setIfInBounds i true = listed') (hi : ops[i]? = some o) (hg : gd ops L o = some true)
    (h : At E n L I Ms (fun a w => o.wp P a w (fun a' w' => (lst X listed' = true ∨ S w') ∧ wpAnyX P ops (NoP Q) S X fuel' listed' a' w') (NoP Q))) : At E n L I Ms (wpAnyX P ops (NoP Q) S X fuel listed) := by
  subst hf hl
  refine at_xall [i] hr (by simp) fun j hj => ?_
  rw [List.mem_singleton] at hj
  subst hj
  exact at_wpOp hi hg h
/-- One of several that may come up. -/
theorem at_xone {i : Nat} (listed' : Array Bool) {o : Oper} (hl : listed.setIfInBounds i true = listed') (hi : ops[i]? = some o) (hg : gd ops L o = some true)
    (h : At E n L I Ms (fun a w => o.wp P a w (fun a' w' => (lst X listed' = true ∨ S w') ∧ wpAnyX P ops (NoP Q) S X fuel listed' a' w') (NoP Q))) :
    At E n L I Ms (fun a w => wpOp P ops (NoP Q) i (fun a' w' => (lst X (listed.setIfInBounds i true) = true ∨ S w') ∧ wpAnyX P ops (NoP Q) S X fuel (listed.setIfInBounds i true) a' w') a w) := by
  subst hl
  exact at_wpOp hi hg h
theorem at_xS (hS : ∀ w, Sat E w I Ms → S w) (h : At E n L I Ms K) : At E n L I Ms (fun a w => (lst X listed = true ∨ S w) ∧ K a w) := fun a w ha hs => ⟨.inr (hS w hs), h a w ha hs⟩
theorem at_xX (hX : lst X listed = true) (h : At E n L I Ms K) : At E n L I Ms (fun a w => (lst X listed = true ∨ S w) ∧ K a w) := fun a w ha hs => ⟨.inl hX, h a w ha hs⟩
theorem at_xweak {S' : World → Prop} (hS : ∀ w, S' w → S w) (h : At E n L I Ms (wpAnyX P ops (NoP Q) S' X fuel listed)) : At E n L I Ms (wpAnyX P ops (NoP Q) S X fuel listed) := fun a w ha hs => wpAnyX_S hS fuel listed a w (h a w ha hs)
end
end Go.Proofs.Ytnhnipdanpcbeaa.Eng
