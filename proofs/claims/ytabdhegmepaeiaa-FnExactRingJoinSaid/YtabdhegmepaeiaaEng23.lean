/- The engine, part 23: what a reading of the arguments tells of them; laws over whatever arguments. -/
import Derived.Test.YtabdhegmepaeiaaEng14
namespace Go.Proofs.Ytabdhegmepaeiaa.Eng
open Go Go.ChangeShapes Go.WideShapes Go.ChangeAt Go.RowKit

/-- What reads at type t is of kind K, and Q holds of it. -/
def Opens {α : Type} (P : Program) (t : TypeId) (K : Kd α) (Q : α → Prop) : Prop :=
  ∀ {H : Type} {enc : TypeId × Value → H} {W : World} {fuel : Nat} {cs : List Value} {x : DataW H × List MemPlace}, DataW.trod enc P W 0 (fun _ => true) true fuel t cs = some x → ∃ a : α, Q a ∧ K.rep (fun b => W.heap[b]?) a cs
def QI (k : IntKind) (n : Int) : Prop := (Lit.int k n).wf = true
def QS (l : List UInt8) : Prop := l.length ≤ maxLen
def QL {α : Type} (Q : α → Prop) (l : List α) : Prop := l.length ≤ maxLen ∧ ∀ x ∈ l, Q x
def QT {α : Type} (_ : α) : Prop := True
section
variable {P : Program} {t : TypeId}
theorem opens_int {k : IntKind} (ht : P.underlying t = some (.int k)) : Opens P t (Kd.int k) (QI k) := fun h => by
  obtain ⟨n, rfl, _, hw⟩ := DataW.trod_int ht h
  exact ⟨n, hw, rfl⟩
theorem opens_bool (ht : P.underlying t = some .bool) : Opens P t Kd.bool QT := fun h => by
  obtain ⟨b, rfl, _⟩ := DataW.trod_bool ht h
  exact ⟨b, trivial, rfl⟩
theorem opens_string (ht : P.underlying t = some .string) : Opens P t Kd.string QS := fun h => by
  obtain ⟨s, rfl, _, hw⟩ := DataW.trod_string ht h
  exact ⟨bl s, by rw [QS, bl_length]; exact hw, by rw [str_bl]; rfl⟩
theorem opens_slice {α : Type} {K : Kd α} {Q : α → Prop} {e : TypeId} (ht : P.underlying t = some (.slice e)) (hc : P.cellsOf e = K.sz) (hpos : 0 < K.sz) (he : Opens P e K Q) : Opens P t (Kd.slice K) (QL Q) := fun {H enc W fuel cs x} h => by
  rcases DataW.trod_slice ht h with ⟨rfl, _⟩ | ⟨a, len, cap, elems, rest, n, _, rfl, _, _, hl, hm, hlen, hel, hsp, _⟩
  · exact ⟨[], ⟨by simp, by simp⟩, none, 0, rfl, Rd.nil _ _⟩
  · have key : ∀ m, m ≤ len → ∃ xs : List α, xs.length = m ∧ ∀ (j : Nat) (y : α), xs[j]? = some y → Q y ∧ ∃ cs, K.rep (fun b => W.heap[b]?) y cs ∧ ∀ i v, cs[i]? = some v → ICell (fun b => W.heap[b]?) ((a.add (j * K.sz)).add i) v := by
      intro m
      induction m with
      | zero => exact fun _ => ⟨[], rfl, fun j y hy => by simp at hy⟩
      | succ m ih =>
        intro hml
        obtain ⟨xs, hx, hxs⟩ := ih (by omega)
        have h1 := hel m (by omega)
        rw [List.getElem?_eq_getElem (by omega), Option.bind_eq_some_iff] at h1
        obtain ⟨cs', h2, h3⟩ := h1
        obtain ⟨z, hz1, hz2⟩ := he h3
        have h4 := World.cells?_some h2
        refine ⟨xs ++ [z], by simp [hx], fun j y hy => ?_⟩
        by_cases hj : j < xs.length
        · rw [List.getElem?_append_left hj] at hy
          exact hxs j y hy
        · rw [List.getElem?_append_right (by omega)] at hy
          have hjm : j = m := by
            have := (List.getElem?_eq_some_iff.1 hy).1
            simp at this; omega
          subst hjm
          rw [hx, Nat.sub_self] at hy
          simp only [List.getElem?_cons_zero, Option.some.injEq] at hy
          subst hy
          refine ⟨hz1, cs', hz2, fun i v hv => ?_⟩
          have hil : i < P.cellsOf e := by rw [← h4.2.1]; exact (List.getElem?_eq_some_iff.1 hv).1
          have h5 := h4.2.2 i hil
          rw [hv, hc] at h5
          exact icell_of h5
    obtain ⟨xs, hx, hxs⟩ := key len (Nat.le_refl _)
    have hspot : 0 < xs.length → a.spot = none := fun h0 => by
      obtain ⟨_, cs0, hr0, hc0⟩ := hxs 0 _ (List.getElem?_eq_getElem h0)
      have hl0 := K.len hr0
      obtain ⟨_, _, _, _, hs, _⟩ := hc0 0 _ (List.getElem?_eq_getElem (by omega))
      rw [Nat.zero_mul, add0, add0] at hs
      exact hs
    refine ⟨xs, ⟨by omega, fun y hy => ?_⟩, some a, cap, by rw [hx], by omega, hspot, fun _ => rfl, fun j y hy => ?_⟩
    · obtain ⟨j, hj⟩ := List.mem_iff_getElem?.1 hy
      exact (hxs j y hj).1
    · obtain ⟨_, cs0, hr0, hc0⟩ := hxs j y hy
      refine ⟨cs0, hr0, fun i v hv => ?_⟩
      have := hc0 i v hv
      rwa [add_add (hspot (by have := (List.getElem?_eq_some_iff.1 hy).1; omega))] at this
theorem trod_fields {fs : Array Field} {m : Nat} {H : Type} {enc : TypeId × Value → H} {W : World} {fuel : Nat} {cs : List Value} {x : DataW H × List MemPlace} (ht : P.underlying t = some (.struct fs)) (hc : P.cellsOf t = m)
    (h : DataW.trod enc P W 0 (fun _ => true) true fuel t cs = some x) : cs.length = m ∧ ∃ n, ∀ (i : Nat) (f : Field), fs[i]? = some f → ∃ y, DataW.trod enc P W 0 (fun _ => true) true n f.type ((cs.drop f.offset).take (P.cellsOf f.type)) = some y := by
  obtain ⟨xs, n, _, _, hl, hlen, hf⟩ := DataW.trod_struct ht h
  refine ⟨by rw [hl, hc], n, fun i f hfi => ?_⟩
  have := hf i f hfi
  have hi : i < xs.length := by rw [hlen]; exact (Array.getElem?_eq_some_iff.1 hfi).1
  rw [List.getElem?_eq_getElem hi] at this
  exact ⟨_, this⟩
end
/-- Values that read at some types. -/
def OpenArgs {H : Type} (enc : TypeId × Value → H) (P : Program) (W : World) (base : Nat) : List TypeId → List Value → Prop
  | [], [] => True
  | t :: ts, v :: vs => (∃ fuel x, DataW.trod enc P W 0 (fun _ => true) true fuel t v.cells.toList = some x) ∧ Value.okWide P W .any base t v ∧ OpenArgs enc P W base ts vs
  | _, _ => False
theorem openArgs_of {H : Type} {enc : TypeId × Value → H} {P : Program} {W : World} {base : Nat} : ∀ {ts : List TypeId} {vs : List Value} {ds : List (DataW H)} {ps : List MemPlace}, DataW.TrodAll enc P W 0 (fun _ => true) true ts vs ds ps →
    (∀ (j : Nat) t v, ts[j]? = some t → vs[j]? = some v → Value.okWide P W .any base t v) → OpenArgs enc P W base ts vs
  | [], vs, ds, ps, h, _ => by
    obtain ⟨rfl, _, _⟩ := trodAll_nil h
    trivial
  | t :: ts, vs, ds, ps, h, hv => by
    obtain ⟨v, vs', d, ds', p, q, rfl, rfl, rfl, h0, h1⟩ := trodAll_cons h
    obtain ⟨fuel, hf⟩ := h0
    exact ⟨⟨fuel, _, hf⟩, hv 0 t v rfl rfl, openArgs_of h1 fun j t' v' e1 e2 => hv (j + 1) t' v' (by simpa using e1) (by simpa using e2)⟩
theorem trodAll_below {H : Type} {enc : TypeId × Value → H} {P : Program} (hl : laidOutB P = true) {W W' : World} (hb : Below W.heap.size W W') : ∀ {ts : List TypeId} {vs : List Value} {ds : List (DataW H)} {ps : List MemPlace}, (∀ t ∈ ts, P.readableRec t = true ∧ t < P.types.size) →
    DataW.TrodAll enc P W 0 (fun _ => true) true ts vs ds ps → (∀ x ∈ ps, x.block < W.heap.size) → DataW.TrodAll enc P W' 0 (fun b => decide (b < W.heap.size)) true ts vs ds ps
  | [], vs, ds, ps, _, h, _ => by
    obtain ⟨rfl, rfl, rfl⟩ := trodAll_nil h
    exact trodAll_mk0
  | t :: ts, vs, ds, ps, ht, h, hlt => by
    obtain ⟨v, vs', d, ds', p, q, rfl, rfl, rfl, h0, h1⟩ := trodAll_cons h
    have h2 := ht t (.head _)
    exact trodAll_cons_mk (Below.trod hl h2.1 h2.2 h0 hb fun x hx => hlt x (by simp [hx])) (trodAll_below hl hb (fun t' m => ht t' (.tail _ m)) h1 fun x hx => hlt x (by simp [hx]))
theorem openArgs_cons {H : Type} {enc : TypeId × Value → H} {P : Program} {W : World} {base : Nat} {t : TypeId} {ts : List TypeId} : ∀ {vs : List Value}, OpenArgs enc P W base (t :: ts) vs →
    ∃ v vs', vs = v :: vs' ∧ (∃ fuel x, DataW.trod enc P W 0 (fun _ => true) true fuel t v.cells.toList = some x) ∧ Value.okWide P W .any base t v ∧ OpenArgs enc P W base ts vs'
  | [], h => h.elim
  | v :: vs', h => ⟨v, vs', rfl, h.1, h.2.1, h.2.2⟩
theorem openArgs_nil {H : Type} {enc : TypeId × Value → H} {P : Program} {W : World} {base : Nat} : ∀ {vs : List Value}, OpenArgs enc P W base [] vs → vs = []
  | [], _ => rfl
  | _ :: _, h => h.elim
section
variable {H : Type} {enc : TypeId × Value → H} {P : Program} {W : World} {base : Nat} {t : TypeId} {v : Value}
theorem arg_slice {α : Type} {K : Kd α} {Q : List α → Prop} {e : TypeId} (ht : P.underlying t = some (.slice e)) (hO : Opens P t (Kd.slice K) Q) (hr : ∃ fuel x, DataW.trod enc P W 0 (fun _ => true) true fuel t v.cells.toList = some x) (ho : Value.okWide P W .any base t v) :
    ∃ xs A c, v = .slice A xs.length c ∧ Q xs ∧ Rd K (fun b => W.heap[b]?) A c xs := by
  obtain ⟨fuel, x, h⟩ := hr
  obtain ⟨a, l, c0, rfl⟩ := okWide_slice ht ho
  obtain ⟨xs, hq, A, c, e, hrd⟩ := hO h
  have e' : Value.slice a l c0 = .slice A xs.length c := by simpa [Value.cells] using e
  exact ⟨xs, A, c, e', hq, hrd⟩
theorem arg_struct {α : Type} {K : Kd α} {Q : α → Prop} {fs : Array Field} (ht : P.underlying t = some (.struct fs)) (hO : Opens P t K Q) (hr : ∃ fuel x, DataW.trod enc P W 0 (fun _ => true) true fuel t v.cells.toList = some x) (ho : Value.okWide P W .any base t v) :
    ∃ x cs, v = .agg cs.toArray ∧ Q x ∧ K.rep (fun b => W.heap[b]?) x cs := by
  obtain ⟨fuel, x, h⟩ := hr
  obtain ⟨cs, rfl, _⟩ := okWide_struct ht ho
  obtain ⟨y, hq, hrd⟩ := hO h
  exact ⟨y, cs.toList, by simp, hq, hrd⟩
theorem arg_int {k : IntKind} (ht : P.underlying t = some (.int k)) (hr : ∃ fuel x, DataW.trod enc P W 0 (fun _ => true) true fuel t v.cells.toList = some x) (ho : Value.okWide P W .any base t v) : ∃ n, v = .int k n ∧ QI k n := by
  obtain ⟨fuel, x, h⟩ := hr
  obtain ⟨n, rfl⟩ := okWide_int ht ho
  obtain ⟨m, e, _, hw⟩ := DataW.trod_int ht h
  have e' : n = m := by simpa [Value.cells] using e
  subst e'
  exact ⟨n, rfl, hw⟩
theorem arg_bool (ht : P.underlying t = some .bool) (ho : Value.okWide P W .any base t v) : ∃ b, v = .bool b := okWide_bool ht ho
theorem arg_string (ht : P.underlying t = some .string) (hr : ∃ fuel x, DataW.trod enc P W 0 (fun _ => true) true fuel t v.cells.toList = some x) (ho : Value.okWide P W .any base t v) : ∃ l, v = str l ∧ QS l := by
  obtain ⟨fuel, x, h⟩ := hr
  obtain ⟨s, rfl⟩ := okWide_string ht ho
  obtain ⟨s', e, _, hw⟩ := DataW.trod_string ht h
  have e' : s = s' := by simpa [Value.cells] using e
  subst e'
  exact ⟨bl s, str_bl s, by rw [QS, bl_length]; exact hw⟩
end
theorem law_any {P : Program} {H : Type} {enc : TypeId × Value → H} {f : FuncId} {fn : Func} {s : ChangeSpec} {W : World} {args : Array Value} {ds gs : List (DataW H)} {before : List MemPlace} {r : TypeId} {base : Nat}
    (hlaid : laidOutB P = true) (hread : fn.params.toList.all (fun t => P.readableRec t && decide (t < P.types.size)) = true) (hrt : fn.resultTypes = #[r]) (hr : P.underlying r = some .bool) (hvars : s.vars = [])
    (hs : ∀ ds : List (DataW H), ds.length = fn.params.size → s.fn H ds = { results := [.lit (.bool true)], args := ds })
    (hval : ∀ (j : Nat) t v, fn.params[j]? = some t → args[j]? = some v → Value.okWide P W .any base t v) (hW : DataW.Whole enc P fn.params.toList s.vars false W args.toList ds gs before)
    (hf : OpenArgs enc P W base fn.params.toList args.toList → Meets P f args (fun b => W.heap[b]?) [] (fun v _ M => v = .bool true ∧ M = [])) :
    Calls P f args W fun e W' => ∃ v, e = .returned v ∧ s.post enc P fn false true false false W args v W' := by
  have hW' := hW
  have hlt := hW.lt
  obtain ⟨p, q, hA, hV, rfl, hfz, hnd⟩ := hW
  rw [hvars] at hV
  obtain ⟨rfl, rfl⟩ := trodVars_none hV
  have hop := openArgs_of (base := base) hA fun j t v e1 e2 => hval j t v (by simpa using e1) (by simpa using e2)
  have hlen : ∀ {ts : List TypeId} {vs : List Value} {ds : List (DataW H)} {ps : List MemPlace}, DataW.TrodAll enc P W 0 (fun _ => true) true ts vs ds ps → ds.length = ts.length := by
    intro ts
    induction ts with
    | nil => intro vs ds ps h; obtain ⟨_, rfl, _⟩ := trodAll_nil h; rfl
    | cons t ts ih => intro vs ds ps h; obtain ⟨v, vs', d, ds', p, q, _, rfl, _, _, h1⟩ := trodAll_cons h; simp [ih h1]
  have hs' := hs ds (by have := hlen hA; simpa using this)
  refine (hf hop W W [] (by simpa using sat_whole W)).mono ?_
  rintro e W' ⟨v, J, M, rfl, ⟨rfl, rfl⟩, hi, hsat⟩
  have hbel := below_of hsat hi
  refine ⟨_, rfl, ds, [], _, [], p ++ [], [], hW', ?_, ?_, ?_, hbel.frame _, fun h => by cases h⟩
  · rw [hrt, List.append_nil]
    show DataW.TrodAll _ _ _ _ _ _ _ _ (s.fn H ds).results []
    rw [hs']
    exact trodAll_mk1 (shut_bool hr _)
  · rw [List.append_nil, List.append_nil]
    show DataW.TrodAll _ _ _ _ _ _ _ _ (s.fn H ds).args _
    rw [hs']
    refine trodAll_below hlaid hbel (fun t m => ?_) hA (fun x hx => hlt x (by simp [hx]))
    have := List.all_eq_true.1 hread t m
    simpa using this
  · rw [hvars, List.append_nil]
    show DataW.TrodVars _ _ _ _ _ (s.fn H ds).vars _
    rw [hs']
    trivial
end Go.Proofs.Ytabdhegmepaeiaa.Eng
