/- The engine, part 5: stretches of a region; code; a call's begin and end. -/
import Derived.Test.YtnhnipdanpcbeaaEng4
import Derived.Calls
namespace Go.Proofs.Ytnhnipdanpcbeaa.Eng
open Go

abbrev Ann := List (Nat × Value)
def allOb : List (World → Prop) → World → Prop
  | [], _ => True
  | [p], w => p w
  | p :: r, w => p w ∧ allOb r w
theorem allOb_cons {p : World → Prop} {r : List (World → Prop)} {w : World} : allOb (p :: r) w ↔ p w ∧ allOb r w := by
  cases r with
  | nil => simp [allOb]
  | cons q r => simp [allOb]
theorem allOb_append {p r : List (World → Prop)} {w : World} : allOb (p ++ r) w ↔ allOb p w ∧ allOb r w := by
  induction p with
  | nil => simp [allOb]
  | cons q p ih => simp only [List.cons_append, allOb_cons, ih, and_assoc]
def idleB (op : BinOp) (v : Value) : Bool := match op with
  | .quo | .rem | .shl | .shr => false
  | .add => match v with
    | .string _ => false
    | _ => true
  | _ => true
/-- Operations whose obligation is none. -/
def idle (o : Op) (v : Value) : Bool := match o with
  | .move _ | .assign _ | .pick .. | .nilCheck _ | .unOp .. | .convert .. | .fieldAddr .. | .field .. | .extract .. | .makeFunc .. | .build .. | .call _ => true
  | .binOp op _ _ _ _ => idleB op v
  | _ => false
def lzA (P : Program) (L : Fra) (o : Oper) (ann : Option Value) : Option (Value × List (World → Prop)) :=
  match lz P L o ann with
  | none => none
  | some (v, ob) => match ann, o.op with
    | some _, .load _ _ => some (v, [ob])
    | some v', op => match idle op v with
      | true => some (v', [fun _ => v = v'])
      | false => some (v', [ob, fun _ => v = v'])
    | none, op => match idle op v with
      | true => some (v, [])
      | false => some (v, [ob])
theorem intOp_idle {op : BinOp} {k : IntKind} {x y : Int} {r : Value} {p : Prop} (h : intOp op k x y = some (r, p)) (hi : idleB op r = true) : p := by
  cases op <;> simp only [intOp, Option.some.injEq, Prod.mk.injEq, reduceCtorEq] at h <;> first | (obtain ⟨_, rfl⟩ := h; trivial) | (cases hi; done)
theorem strOp_idle {op : BinOp} {x y : List UInt8} {r : Value} {p : Prop} (h : strOp op x y = some (r, p)) (hi : idleB op r = true) : p := by
  cases op <;> simp only [strOp, Option.some.injEq, Prod.mk.injEq, reduceCtorEq] at h <;> obtain ⟨rfl, rfl⟩ := h <;> first | trivial | (simp [idleB, str] at hi)
theorem binV_idle {op : BinOp} {x y r : Value} {p : Prop} (h : binV op x y = some (r, p)) (hi : idleB op r = true) : p := by
  cases x <;> cases y <;> first | (cases h; done) | skip
  · cases op <;> first | (cases hi; done) | (simp only [binV] at h; split at h <;> first | exact intOp_idle h hi | (cases h; done))
  · exact strOp_idle h hi
theorem lz_idle {P : Program} {L : Fra} {o : Oper} {ann : Option Value} {v : Value} {ob : World → Prop} (h : lz P L o ann = some (v, ob))
    (hi : idle o.op v = true) (w : World) : ob w := by
  cases hop : o.op with
  | binOp op t x y u =>
    simp only [lz, hop] at h
    simp only [hop, idle] at hi
    split at h
    · split at h <;> cases h <;> trivial
    · split at h
      · rename_i hb
        cases h
        exact binV_idle hb hi
      · cases h
    · cases h
  | _ =>
    rw [hop] at hi
    first
    | (cases hi; done)
    | (simp only [lz, hop] at h
       repeat' split at h
       all_goals first | (cases h; done) | (simp only [Option.some.injEq, Prod.mk.injEq] at h; obtain ⟨_, rfl⟩ := h; trivial))
theorem lzA_sound {P : Program} {L : Fra} {o : Oper} {ann : Option Value} {v : Value} {obs : List (World → Prop)} {a : Act} {n : Nat} {w : World}
    (h : lzA P L o ann = some (v, obs)) (ha : FrOk a n L) (hw : allOb obs w) : (execOp a.eval o).run P w = .ok (.value v) w := by
  unfold lzA at h
  split at h
  · cases h
  · rename_i u ob hl
    split at h
    · cases h
      exact lz_sound hl ha hw
    · split at h <;> cases h
      · rename_i hi
        have e : u = v := hw
        exact e ▸ lz_sound hl ha (lz_idle hl hi w)
      · have e : u = v := hw.2
        exact e ▸ lz_sound hl ha hw.1
    · split at h <;> cases h
      · rename_i hi
        exact lz_sound hl ha (lz_idle hl hi w)
      · exact lz_sound hl ha hw

/-! ### stretches of operations -/
/-- Is the operation carried out? -/
def gd (ops : Array Oper) (L : Fra) (o : Oper) : Option Bool :=
  match o.guard with
  | none => some true
  | some (j, want) => match ops[j]? with
    | none => none
    | some oj => match oj.dst with
      | none => none
      | some d => match look L d with
        | some (.bool true) => some want
        | some (.bool false) => some (!want)
        | some (.tuple _) => some false
        | _ => none
theorem gd_wanted {ops : Array Oper} {a : Act} {n : Nat} {L : Fra} {o : Oper} {b : Bool} (h : gd ops L o = some b) (ha : FrOk a n L) :
    Region.wanted o (yielded ops a.tmps) = b := by
  unfold gd at h
  unfold Region.wanted
  cases hg : o.guard with
  | none => simp only [hg] at h; exact Option.some.inj h
  | some p =>
    obtain ⟨j, want⟩ := p
    simp only [hg] at h ⊢
    cases ho : ops[j]? with
    | none => simp only [ho] at h; cases h
    | some oj =>
      simp only [ho] at h
      cases hd : oj.dst with
      | none => simp only [hd] at h; cases h
      | some d =>
        simp only [hd] at h
        unfold yielded
        simp only [ho, hd, Option.bind_some]
        split at h
        · rename_i hl; cases h; rw [ha.ok d _ (look_mem hl)]; cases b <;> rfl
        · rename_i hl; cases h; rw [ha.ok d _ (look_mem hl)]; cases want <;> rfl
        · rename_i hl; cases h; rw [ha.ok d _ (look_mem hl)]; cases want <;> rfl
        · cases h
def dstOk (n : Nat) (d : Option Nat) : Bool := match d with
  | none => true
  | some k => Nat.blt k n
theorem dstOk_spec {n : Nat} {d : Option Nat} (h : dstOk n d = true) : ∀ k, d = some k → k < n := by
  rintro k rfl
  simpa [dstOk] using h
def runL (P : Program) (n : Nat) (ops : Array Oper) : List Nat → Fra → Ann → Option (Fra × List (World → Prop))
  | [], L, _ => some (L, [])
  | i :: r, L, ann => match ops[i]? with
    | none => none
    | some o => match dstOk n o.dst with
      | false => none
      | true => match gd ops L o with
        | none => none
        | some false => runL P n ops r (fput L o.dst undef) ann
        | some true => match lzA P L o (look ann i) with
          | none => none
          | some (v, ob) => match runL P n ops r (fput L o.dst v) ann with
            | none => none
            | some (L', obs) => some (L', ob ++ obs)
theorem ops_runL {P : Program} {n : Nat} {ops : Array Oper} {Q : Exit → Act → World → Prop} {rest : List Nat} {w : World} {ann : Ann} :
    ∀ (l : List Nat) (L L' : Fra) (obs : List (World → Prop)) (a : Act), runL P n ops l L ann = some (L', obs) → FrOk a n L → allOb obs w →
      (∀ a', FrOk a' n L' → wpOps P ops Q rest a' w) → wpOps P ops Q (l ++ rest) a w
  | [], L, L', obs, a, h, ha, _, hk => by
    cases h
    exact hk a ha
  | i :: r, L, L', obs, a, h, ha, hw, hk => by
    simp only [runL] at h
    split at h
    · cases h
    · rename_i o ho
      split at h
      · cases h
      · rename_i hd
        have hd' := dstOk_spec hd
        split at h
        · cases h
        · rename_i hg
          have hg' := gd_wanted hg ha
          simp only [List.cons_append, wpOps, ho, hg', Bool.false_eq_true, if_false]
          exact ops_runL r _ _ _ _ h (ha.put hd' undef) hw hk
        · rename_i hg
          have hg' := gd_wanted hg ha
          split at h
          · cases h
          · rename_i v ob hl
            split at h
            · cases h
            · rename_i L'' obs' hr
              cases h
              rw [allOb_append] at hw
              have := lzA_sound hl ha hw.1
              simp only [List.cons_append, wpOps, ho, hg', if_true, Oper.wp, this, Oper.upon]
              exact .inl (ops_runL r _ _ _ _ hr (ha.put hd' v) hw.2 hk)
/-- May these be taken first, one behind the other, in a region that draws? -/
def takes (ops : Array Oper) : List Nat → Array Bool → Bool
  | [], _ => true
  | i :: r, listed => match Region.free .any ops listed i, (Region.ready .any ops listed).contains i with
    | true, true => takes ops r (listed.setIfInBounds i true)
    | _, _ => false
def setAll : List Nat → Array Bool → Array Bool
  | [], l => l
  | i :: r, l => setAll r (l.setIfInBounds i true)
def NoP (Q : Exit → Act → World → Prop) : Exit → Act → World → Prop
  | .panic _, _, _ => False
  | .outgrown, _, _ => False
  | e, a, w => Q e a w
theorem any_runL {P : Program} {n : Nat} {ops : Array Oper} {Q : Exit → Act → World → Prop} {S : World → Prop} {w : World} {ann : Ann} {fuel : Nat} (hs : Region.noSelect ops = true) (hS : S w) :
    ∀ (l : List Nat) (L L' : Fra) (obs : List (World → Prop)) (a : Act) (listed : Array Bool), runL P n ops l L ann = some (L', obs) → takes ops l listed = true → FrOk a n L →
      (∀ w', S w' → allOb obs w') → (∀ a', FrOk a' n L' → wpAnyH P .any ops (NoP Q) S fuel (setAll l listed) a' w) → wpAnyH P .any ops (NoP Q) S (fuel + l.length) listed a w
  | [], L, L', obs, a, listed, h, _, ha, _, hk => by
    cases h
    exact hk a ha
  | i :: r, L, L', obs, a, listed, h, ht, ha, hw, hk => by
    simp only [runL] at h
    simp only [takes] at ht
    split at ht
    case h_2 => cases ht
    rename_i hf hr0
    split at h
    · cases h
    · rename_i o ho
      split at h
      · cases h
      · rename_i hd
        have hd' := dstOk_spec hd
        split at h
        · cases h
        · rename_i hg
          have hg' := gd_wanted hg ha
          refine wpAnyH_take ho hs hf hr0 (fun _ _ _ h => h) (v := undef) (.inr ⟨hg', rfl⟩) hS ?_
          exact any_runL hs hS r _ _ _ _ _ h ht (ha.put hd' undef) hw hk
        · rename_i hg
          have hg' := gd_wanted hg ha
          split at h
          · cases h
          · rename_i v ob hl
            split at h
            · cases h
            · rename_i L'' obs' hr
              cases h
              refine wpAnyH_take ho hs hf hr0 (fun _ _ _ h => h) (v := v) (.inl ⟨hg', fun w' h' => lzA_sound hl ha (allOb_append.1 (hw w' h')).1⟩) hS ?_
              exact any_runL hs hS r _ _ _ _ _ hr ht (ha.put hd' v) (fun w' h' => (allOb_append.1 (hw w' h')).2) hk
end Go.Proofs.Ytnhnipdanpcbeaa.Eng
