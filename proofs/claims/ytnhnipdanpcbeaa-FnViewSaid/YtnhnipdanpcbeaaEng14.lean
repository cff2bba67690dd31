/- The engine, part 14: from a contract to a row's form: laws over one row of bytes. -/
import Derived.Test.YtnhnipdanpcbeaaEng13
import Derived.ProofKit
import Derived.OpenShut
import Derived.Carry
import Derived.JoinedCond
namespace Go.Proofs.Ytnhnipdanpcbeaa.Eng
open Go Go.ChangeShapes Go.WideShapes Go.ChangeAt Go.RowKit

theorem sat_whole (W : World) : Sat W W (fun b => W.heap[b]?) [] := ⟨rfl, rfl, rfl, fun _ _ h => h, fun b o m => by simp at m, by simp⟩
theorem below_of {W w' : World} {J : Imm} {Ms : List Seg} (h : Sat W w' J Ms) (hi : ImmLe (fun b => W.heap[b]?) J) : Below W.heap.size W w' := by
  have key : ∀ k, k < W.heap.size → w'.heap[k]? = W.heap[k]? := fun k hk => by
    have h1 : W.heap[k]? = some (W.heap[k]) := Array.getElem?_eq_getElem hk
    rw [h1]; exact h.imm k _ (hi k _ h1)
  refine ⟨h.os, h.tape, h.output, ?_, key⟩
  apply Nat.le_of_not_lt
  intro hlt
  have := key w'.heap.size hlt
  rw [Array.getElem?_eq_none (Nat.le_refl _), Array.getElem?_eq_getElem hlt] at this
  cases this
theorem icell_of {W : World} {ad : Addr} {v : Value} (h : W.cell? ad = some v) : ICell (fun b => W.heap[b]?) ad v := by
  unfold World.cell? at h
  split at h
  · rename_i c e fr hb
    split at h
    · cases h
    · rename_i hs
      exact ⟨c, e, fr, hb, by simpa using hs, h⟩
  · cases h
theorem rd_of_cells {k : IntKind} {W : World} {a : Addr} {len cap : Nat} {zs : List Int} (hl : len ≤ cap) (hz : len ≤ zs.length) (hc : ∀ i, i < zs.length → W.cell? (a.add i) = some (.int k (zs.getD i 0))) :
    Rd (Kd.int k) (fun b => W.heap[b]?) (some a) cap (zs.take len) := by
  have hlen : (zs.take len).length = len := by simp; omega
  refine ⟨by omega, fun hp => ?_, fun _ => rfl, fun j x hx => ?_⟩
  · have := icell_of (hc 0 (by omega))
    rw [add0] at this
    obtain ⟨_, _, _, _, h, _⟩ := this
    exact h
  · have hj : j < len := by rw [← hlen]; exact (List.getElem?_eq_some_iff.1 hx).1
    rw [List.getElem?_take, if_pos hj] at hx
    refine ⟨_, rfl, fun i v hv => ?_⟩
    have hi : i = 0 := by
      have := (List.getElem?_eq_some_iff.1 hv).1
      simpa using this
    subst hi
    have h1 := icell_of (hc j (by omega))
    have hv' : v = .int k x := by simpa using hv.symm
    rw [hv']
    rw [List.getD_eq_getElem?_getD, hx] at h1
    have e : j * (Kd.int k).sz + 0 = j := by show j * 1 + 0 = j; omega
    rw [e]
    exact h1
theorem law_bytes {P : Program} {H : Type} {enc : TypeId × Value → H} {f : FuncId} {fn : Func} {s : ChangeSpec} {W : World} {args : Array Value} {ds gs : List (DataW H)} {before : List MemPlace} {t e r : TypeId} {base : Nat}
    (hlaid : laidOutB P = true) (hread : P.readableRec t = true) (hrow : t < P.types.size) (hp : fn.params = #[t]) (hrt : fn.resultTypes = #[r]) (hr : P.underlying r = some .bool) (hvars : s.vars = [])
    (ht : P.underlying t = some (.slice e)) (he : P.underlying e = some (.int .u8)) (hce : P.cellsOf e = 1) (hs : ∀ d, s.fn H [d] = { results := [.lit (.bool true)], args := [d] })
    (hval : ∀ (j : Nat) t v, fn.params[j]? = some t → args[j]? = some v → Value.okWide P W .any base t v) (hW : DataW.Whole enc P fn.params.toList s.vars false W args.toList ds gs before)
    (hf : ∀ (A : Option Addr) (c : Nat) (xs : List Int), (∀ n ∈ xs, 0 ≤ n ∧ n ≤ 255) → xs.length ≤ maxLen → Rd (Kd.int .u8) (fun b => W.heap[b]?) A c xs → Meets P f ([.slice A xs.length c] : List Value).toArray (fun b => W.heap[b]?) [] (fun v _ M => v = .bool true ∧ M = [])) :
    Calls P f args W fun e W' => ∃ v, e = .returned v ∧ s.post enc P fn false true false false W args v W' := by
  have hW' := hW
  have hlt := hW.lt
  obtain ⟨p, q, hA, hV, rfl, hfz, hnd⟩ := hW
  rw [hp] at hA hval
  rw [hvars] at hV
  obtain ⟨v0, vs0, d0, ds0, p0, q0, hargs, rfl, rfl, h0, r0⟩ := trodAll_cons hA
  obtain ⟨rfl, rfl, rfl⟩ := trodAll_nil r0
  obtain rfl : args = #[v0] := by cases args; simp_all
  obtain ⟨rfl, rfl⟩ := trodVars_none hV
  have hlt0 : ∀ x ∈ p0, x.block < W.heap.size := fun x hx => hlt x (by simp [hx])
  obtain ⟨a0, len0, cap0, rfl⟩ := okWide_slice ht (hval 0 t v0 rfl rfl)
  have h00 := h0
  obtain ⟨fuel, hfu⟩ := h0
  have hgo : ∀ (A : Option Addr) (c : Nat) (xs : List Int), (.slice a0 len0 cap0 : Value) = .slice A xs.length c → (∀ n ∈ xs, 0 ≤ n ∧ n ≤ 255) → xs.length ≤ maxLen → Rd (Kd.int .u8) (fun b => W.heap[b]?) A c xs →
      Calls P f #[.slice a0 len0 cap0] W fun e W' => ∃ v, e = .returned v ∧ s.post enc P fn false true false false W #[.slice a0 len0 cap0] v W' := by
    intro A c xs hv hb hm hrd
    cases hv
    refine (hf _ _ xs hb hm hrd W W [] (by simpa using sat_whole W)).mono ?_
    rintro e W' ⟨v, J, M, rfl, ⟨rfl, rfl⟩, hi, hs'⟩
    have hbel := below_of hs' hi
    refine ⟨_, rfl, [d0], [], _, [], p0 ++ [], [], hW', ?_, ?_, ?_, hbel.frame _, fun h => by cases h⟩
    · rw [hrt]
      show DataW.TrodAll _ _ _ _ _ _ _ _ (s.fn H [d0]).results []
      rw [hs]
      exact trodAll_mk1 (shut_bool hr _)
    · rw [hp]
      show DataW.TrodAll _ _ _ _ _ _ _ _ (s.fn H [d0]).args _
      rw [hs]
      exact trodAll_cons_mk (Below.trod hlaid hread hrow h00 hbel hlt0) trodAll_mk0
    · rw [hvars]
      show DataW.TrodVars _ _ _ _ _ (s.fn H [d0]).vars _
      rw [hs]
      trivial
  rcases open_ints ht he hce hfu with ⟨hcs, hx⟩ | ⟨a, len, cap, zs, hcs, _, hl, hm, hz, hx, hcell, hwz⟩
  · have hv : (.slice a0 len0 cap0 : Value) = .slice none 0 0 := by simpa [Value.cells] using hcs
    exact hgo none 0 [] hv (by simp) (by simp) (Rd.nil _ _)
  · have hv : (.slice a0 len0 cap0 : Value) = .slice (some a) len cap := by simpa [Value.cells] using hcs
    simp only [if_true] at hz
    have hlen : (zs.take len).length = len := by simp; omega
    refine hgo (some a) cap (zs.take len) (by rw [hlen]; exact hv) (fun n hn => ?_) (by omega) (rd_of_cells hl (by omega) hcell)
    have := hwz n (List.mem_of_mem_take hn)
    simpa [Lit.wf, IntKind.min, IntKind.max, IntKind.signed, IntKind.bits] using this
end Go.Proofs.Ytnhnipdanpcbeaa.Eng
