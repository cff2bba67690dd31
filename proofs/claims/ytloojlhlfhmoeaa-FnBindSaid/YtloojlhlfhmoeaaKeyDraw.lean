/- The drawn keys. -/
import Derived.Test.YtloojlhlfhmoeaaKeyBind
import Derived.Test.YtloojlhlfhmoeaaDraw0
namespace Go.Proofs.Ytloojlhlfhmoeaa
open Go Eng
set_option linter.unusedVariables false
set_option linter.unusedSimpArgs false

theorem pick_ex (s : T_spec_l01Src) (h : SrcOk s) (l : List (List UInt8)) (h1 : 0 < l.length) (h2 : l.length ≤ 1000) : ∃ r, Ev (fun k => spec_l01Src_pick k s l) r ∧ (SrcOk r.2 ∧ r.1 ∈ l) :=
  Ev.bind_ex (n_ex s h (l.length : Int) (by omega)) fun b hb => Ev.ite_ex (fun h3 => Ev.ite_ex (fun h4 => Ev.pure_ex ⟨hb.1, rdA_in _ _ _ h3 h4⟩) fun hn => absurd (show b.1 < (l.length : Int) by have := hb.2; omega) hn) fun hn => absurd hb.2.1 hn
theorem bytes_l0_ex : ∀ (m : Nat) (t : List UInt8) (s : T_spec_l01Src), SrcOk s → t.length + m ≤ 1000 →
    ∃ r, Ev (fun k => spec_l01Src_l07Bytes_l0 k (m : Int) t s.b s.at_ s.mix s.size) r ∧ (SrcOk r.2 ∧ r.1.length ≤ t.length + m)
  | 0, t, s, h, hl => by
    refine Ev.succ_ex ?_
    simp only [spec_l01Src_l07Bytes_l0]
    exact Ev.ite_ex (fun h0 => absurd h0 (by omega)) fun _ => Ev.pure_ex ⟨h, by simp⟩
  | m + 1, t, s, h, hl => by
    refine Ev.succ_ex ?_
    simp only [spec_l01Src_l07Bytes_l0, if_pos (show ((m + 1 : Nat) : Int) > 0 by omega)]
    refine Ev.bind_ex (pick_ex s h _ (by decide) (by decide)) fun b hb => ?_
    have hbl : b.1.length ≤ 1 := by
      have := hb.2
      simp only [List.mem_cons, List.not_mem_nil, or_false] at this
      rcases this with e | e | e | e | e | e <;> rw [e] <;> decide
    refine Ev.ite_ex (fun _ => ?_) fun hn => absurd (show t.length + b.1.length ≤ 9223372036854775807 by omega) hn
    rw [wi (by omega) (by omega), show ((m + 1 : Nat) : Int) - 1 = (m : Int) by omega]
    obtain ⟨r, e, h1, h2⟩ := bytes_l0_ex m (t ++ b.1) b.2 hb.1 (by simp; omega)
    exact ⟨r, e, h1, by simp at h2; omega⟩
theorem bytes_ex (s : T_spec_l01Src) (h : SrcOk s) (p : Int) (h0 : 0 ≤ p) (h1 : p ≤ 1000) : ∃ r, Ev (fun k => spec_l01Src_l07Bytes k s p) r ∧ (SrcOk r.2 ∧ (r.1.length : Int) ≤ p) := by
  obtain ⟨m, rfl⟩ : ∃ m : Nat, p = m := ⟨p.toNat, by omega⟩
  obtain ⟨r, e, hr, hn⟩ := bytes_l0_ex m [] s h (by simp; omega)
  exact ⟨r, e, hr, by simp at hn; omega⟩
abbrev Kk (x : T_impl_Key) : Prop := x.Keys.length ≤ 10000 ∧ x.Name.length ≤ 10000
theorem key_ex (s : T_spec_l01Src) (h : SrcOk s) : ∃ r, Ev (fun k => spec_l01Src_l07Key k s) r ∧ (SrcOk r.2 ∧ Kk r.1) := by
  unfold spec_l01Src_l07Key
  refine Ev.bind_ex (n_ex s h 2 (by omega)) fun a ha => ?_
  refine Ev.bind_ex (n_ex a.2 ha.1 3 (by omega)) fun b hb => ?_
  have h1 := hb.2.1
  have h2 := hb.2.2
  rw [wi (x := 1 + b.1) (by omega) (by omega)]
  refine Ev.bind_ex (bytes_ex b.2 hb.1 (1 + b.1) (by omega) (by omega)) fun c hc => ?_
  have h3 := hc.2
  refine Ev.bind_ex (pick_ex c.2 hc.1 _ (by decide) (by decide)) fun d hd => Ev.pure_ex ⟨hd.1, by show c.1.length ≤ 10000; omega, ?_⟩
  have := hd.2
  simp only [List.mem_cons, List.not_mem_nil, or_false] at this
  show d.1.length ≤ 10000
  rcases this with e | e | e | e | e <;> rw [e] <;> decide
theorem BindR.small {l r : List T_impl_Key} {k : T_impl_Key} (h : BindR l k r) (hl : l.length ≤ 60) : r.length ≤ 60 := by
  cases h with
  | same => exact hl
  | ins p _ _ _ hi => exact hi.1
theorem BindR.kb {l r : List T_impl_Key} {k : T_impl_Key} (h : BindR l k r) (hl : Kb l) (hk : Kk k) : Kb r := by
  cases h with
  | same => exact hl
  | ins p _ hp _ hi => exact ins_kb hl hk
theorem Kb.snoc {l : List T_impl_Key} {x : T_impl_Key} (h : Kb l) (hx : Kk x) : Kb (l ++ [x]) := fun y hy => by
  rcases List.mem_append.1 hy with hy | hy
  · exact h y hy
  · rw [List.mem_singleton.1 hy]; exact hx
def DrawnKeys (r : List T_impl_Key × T_spec_l01Src) : Prop := SrcOk r.2 ∧ r.1.length ≤ 100 ∧ Kb r.1
set_option maxRecDepth 100000 in
theorem keys_l0_ex : ∀ (m : Nat) (l : List T_impl_Key) (i : Int) (s : T_spec_l01Src), SrcOk s → l.length + m = 70 → 0 ≤ i → i ≤ 1000 - m → Kb l →
    ∃ r, Ev (fun k => spec_l01Src_l07Keys_l0 k l i s.b s.at_ s.mix s.size) r ∧ DrawnKeys r
  | 0, l, i, s, h, hl, h0, hi, hk => by
    refine Ev.succ_ex ?_
    simp only [spec_l01Src_l07Keys_l0]
    refine Ev.bind_ex (n_ex s h 3 (by omega)) fun b hb => ?_
    have h1 := hb.2.1
    have h2 := hb.2.2
    rw [wi (x := 59 + b.1) (by omega) (by omega)]
    exact Ev.ite_ex (fun h3 => absurd h3 (by omega)) fun _ => Ev.pure_ex ⟨hb.1, by show l.length ≤ 100; omega, hk⟩
  | m + 1, l, i, s, h, hl, h0, hi, hk => by
    refine Ev.succ_ex ?_
    simp only [spec_l01Src_l07Keys_l0]
    refine Ev.bind_ex (n_ex s h 3 (by omega)) fun b hb => ?_
    have h1 := hb.2.1
    have h2 := hb.2.2
    rw [wi (x := 59 + b.1) (by omega) (by omega)]
    refine Ev.ite_ex (fun h3 => ?_) fun _ => Ev.pure_ex ⟨hb.1, by show l.length ≤ 100; omega, hk⟩
    refine Ev.ite_ex (fun _ => ?_) fun hn => absurd (show l.length + 1 ≤ 3518437208883 by omega) hn
    rw [wi (x := i + 1) (by omega) (by omega)]
    exact keys_l0_ex m _ (i + 1) b.2 hb.1 (by simp; omega) (by omega) (by omega) (hk.snoc ⟨by simp [toB], by simp⟩)
theorem keys_j1_ex (l : List T_impl_Key) (s : T_spec_l01Src) (h : SrcOk s) (hl : l.length ≤ 70) (hk : Kb l) : ∃ r, Ev (fun k => spec_l01Src_l07Keys_j1 k l s.b s.at_ s.mix s.size) r ∧ DrawnKeys r := by
  refine Ev.succ_ex ?_
  simp only [spec_l01Src_l07Keys_j1]
  refine Ev.bind_ex (one_ex s h 40 (by omega)) fun b hb => ?_
  refine Ev.ite_ex (fun _ => keys_l0_ex 70 [] 0 b.2 hb (by simp) (by omega) (by omega) (fun x hx => by simp at hx)) fun _ => Ev.pure_ex ⟨hb, by show l.length ≤ 100; omega, hk⟩
theorem keys_j2_ex (l : List T_impl_Key) (s : T_spec_l01Src) (h : SrcOk s) (hl : l.length ≤ 60) (hk : Kb l) (m : Int) (ks nm : List UInt8) (h1 : ks.length ≤ 10000) (h2 : nm.length ≤ 10000) : ∃ r, Ev (fun k => spec_l01Src_l07Keys_j2 k s.b s.at_ s.mix s.size m ks nm l) r ∧ DrawnKeys r := by
  refine Ev.succ_ex ?_
  simp only [spec_l01Src_l07Keys_j2]
  refine Ev.ite_ex (fun _ => Ev.ite_ex (fun _ => ?_) fun hn => absurd (show ([] ++ l).length + 1 ≤ 3518437208883 by simp; omega) hn) fun hn => absurd (show 0 + l.length ≤ 3518437208883 by omega) hn
  rw [List.nil_append]
  exact keys_j1_ex _ s h (by simp; omega) (hk.snoc ⟨h1, h2⟩)
theorem keys_j0_ex (l : List T_impl_Key) (s : T_spec_l01Src) (h : SrcOk s) (hl : l.length ≤ 60) (hk : Kb l) : ∃ r, Ev (fun k => spec_l01Src_l07Keys_j0 k l s.b s.at_ s.mix s.size) r ∧ DrawnKeys r := by
  refine Ev.succ_ex ?_
  simp only [spec_l01Src_l07Keys_j0]
  refine Ev.bind_ex (one_ex s h 15 (by omega)) fun b hb => ?_
  refine Ev.ite_ex (fun _ => ?_) fun _ => keys_j1_ex l b.2 hb (by omega) hk
  refine Ev.bind_ex (key_ex b.2 hb) fun c hc => ?_
  refine Ev.bind_ex (n_ex c.2 hc.1 4 (by omega)) fun d hd => ?_
  refine Ev.ite_ex (fun _ => ?_) fun _ => Ev.ite_ex (fun _ => ?_) fun _ => Ev.ite_ex (fun _ => ?_) fun _ => ?_
  · refine Ev.bind_ex (n_ex d.2 hd.1 2 (by omega)) fun e he => keys_j2_ex l e.2 he.1 hl hk _ _ _ hc.2.1 hc.2.2
  · refine Ev.bind_ex (n_ex d.2 hd.1 2 (by omega)) fun e he => ?_
    have h1 := he.2.1
    have h2 := he.2.2
    rw [wi (x := 7 * e.1) (by omega) (by omega)]
    refine Ev.bind_ex (bytes_ex e.2 he.1 (7 * e.1) (by omega) (by omega)) fun f hf => ?_
    have h3 := hf.2
    exact keys_j2_ex l f.2 hf.1 hl hk _ _ _ (by omega) hc.2.2
  · refine Ev.bind_ex (pick_ex d.2 hd.1 _ (by decide) (by decide)) fun e he => keys_j2_ex l e.2 he.1 hl hk _ _ _ hc.2.1 ?_
    have := he.2
    simp only [List.mem_cons, List.not_mem_nil, or_false] at this
    rcases this with e | e | e <;> rw [e] <;> decide
  · exact keys_j2_ex l d.2 hd.1 hl hk _ _ _ hc.2.1 hc.2.2
theorem keys_l1_ex : ∀ (m : Nat) (l : List T_impl_Key) (s : T_spec_l01Src), SrcOk s → m ≤ 1000 → l.length ≤ 60 → Kb l → ∃ r, Ev (fun k => spec_l01Src_l07Keys_l1 k l (m : Int) s.b s.at_ s.mix s.size) r ∧ DrawnKeys r
  | 0, l, s, h, hm, hl, hk => by
    refine Ev.succ_ex ?_
    simp only [spec_l01Src_l07Keys_l1]
    exact Ev.ite_ex (fun h0 => absurd h0 (by omega)) fun _ => keys_j0_ex l s h hl hk
  | m + 1, l, s, h, hm, hl, hk => by
    refine Ev.succ_ex ?_
    simp only [spec_l01Src_l07Keys_l1, if_pos (show ((m + 1 : Nat) : Int) > 0 by omega)]
    refine Ev.bind_ex (key_ex s h) fun b hb => ?_
    obtain ⟨r, hr, e1, e2⟩ := bind_ev l b.1 (by omega) hk hb.2
    refine Ev.bind_ex ⟨r, e1, hr⟩ fun c hc => ?_
    rw [wi (by omega) (by omega), show ((m + 1 : Nat) : Int) - 1 = (m : Int) by omega]
    exact keys_l1_ex m c b.2 hb.1 (by omega) (hc.small hl) (hc.kb hk hb.2)
theorem keys_ex (s : T_spec_l01Src) (h : SrcOk s) : ∃ r, Ev (fun k => spec_l01Src_l07Keys k s) r ∧ DrawnKeys r := by
  unfold spec_l01Src_l07Keys
  have hz0 := h.z0
  have hz1 := h.z1
  rw [wi (by omega) (by omega)]
  refine Ev.bind_ex (n_ex s h _ (by omega)) fun b hb => ?_
  have h1 := hb.2.1
  have h2 := hb.2.2
  obtain ⟨m, hm⟩ : ∃ m : Nat, b.1 = m := ⟨b.1.toNat, by omega⟩
  rw [hm]
  exact keys_l1_ex m [] b.2 hb.1 (by omega) (by simp) (fun x hx => by simp at hx)
theorem drawBind_ex (xs : List Int) (h : xs.length ≤ 1048576) : ∃ r, Ev (fun k => spec_DrawKeyBind k xs) r ∧ (r.1.length ≤ 100 ∧ Kb r.1 ∧ Kk r.2) := by
  unfold spec_DrawKeyBind
  refine Ev.bind_ex (source_ex xs h) fun s hs => ?_
  refine Ev.bind_ex (keys_ex s hs) fun b hb => ?_
  refine Ev.bind_ex (key_ex b.2 hb.1) fun c hc => Ev.pure_ex ⟨hb.2.1, hb.2.2, hc.2⟩
end Go.Proofs.Ytloojlhlfhmoeaa
