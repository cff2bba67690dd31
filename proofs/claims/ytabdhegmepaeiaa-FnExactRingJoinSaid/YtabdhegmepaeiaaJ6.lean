import Derived.Test.YtabdhegmepaeiaaJ5
namespace Go.Proofs.Ytabdhegmepaeiaa
open Go Eng
set_option linter.unusedVariables false
set_option linter.unusedSimpArgs false
/-! ### slices.Insert[[][]int64,[]int64]: function 53 -/
def slices_Insert_int64_int64 (s : List (List Value)) (i : Int) (v : List (List Value)) : Option (List (List Value)) := if s.length + v.length ≤ 5864062014805 then (if 0 ≤ i then (if i ≤ (s.length : Int) then some (s.take i.toNat ++ v ++ s.drop i.toNat) else none) else none) else none
set_option maxHeartbeats 4000000 in
set_option maxRecDepth 100000 in
theorem slices_Insert_int64_int64.calls {s : List (List Value)} {i : Int} {v r : List (List Value)} {I0 : Imm} {A A2 : Option Addr} {c c2 : Nat} {S1 S2 : Seg} (H : slices_Insert_int64_int64 s i v = some r) (ho : Own (Kd.raw 1) 25 I0 A c s S1) (ho2 : Own (Kd.raw 1) 25 I0 A2 c2 v S2) :
    Meets Try.prog 53 ([.slice A s.length c, .int .i64 i, .slice A2 v.length c2] : List Value).toArray I0 [S1, S2] (fun u J M => ∃ (A_1 : Option Addr) (c_2 : Nat) (s_3 : Seg), u = .slice A_1 r.length c_2 ∧ M = [s_3] ∧ Own (Kd.raw 1) 25 J A_1 c_2 r s_3) := by
  have hle := ImmLe.refl I0
  unfold slices_Insert_int64_int64 at H
  obtain ⟨hl, H⟩ := ite_some H
  obtain ⟨h0, H⟩ := ite_some H
  obtain ⟨h1, H⟩ := ite_some H
  obtain rfl := Option.some.inj H
  obtain ⟨p, rfl⟩ : ∃ p : Nat, i = p := ⟨i.toNat, by omega⟩
  simp only [Int.toNat_natCast] at *
  have hps : p ≤ s.length := by omega
  have hcp := ho.cap
  have hrl : (s.take p ++ v ++ s.drop p).length = s.length + v.length := by simp only [List.length_append, List.length_take, List.length_drop]; omega
  obtain ⟨i_, hi_, hz_, hs_, hb_⟩ := info25
  refine fn_intro (fn := Try.f53) 95 Try.func53 rfl rfl rfl (fun E Fs => ?_)
  refine at_seq ?_
  refine at_reg [] [0, 1, 2] (L2 := [(0, .slice A s.length c), (1, .int .i64 (p : Int)), (2, .slice A2 v.length c2)]) (obs := []) (by kernel_rfl) ?_ ?_
  · intro w hs; exact trivial
  refine at_thn ?_
  refine at_seq ?_
  refine at_reg [] [0, 1, 2] (L2 := [(0, .slice A s.length c), (1, .int .i64 (p : Int)), (2, .slice A2 v.length c2)]) (obs := [fun _ => 0 ≤ (p : Int) ∧ (p : Int) ≤ ((s.length : Nat) : Int) ∧ ((s.length : Nat) : Int) ≤ ((c : Nat) : Int)]) (by kernel_rfl) ?_ ?_
  · intro w hs; exact ⟨by omega, by omega, by omega⟩
  refine at_thn ?_
  refine at_seq ?_
  refine at_reg [] [0, 1, 2, 7] (L2 := [(0, .slice A s.length c), (1, .int .i64 (p : Int)), (2, .slice A2 v.length c2), (7, .int .i64 (v.length : Int))]) (obs := []) (by kernel_rfl) ?_ ?_
  · intro w hs; exact trivial
  refine at_thn ?_
  refine at_seq ?_
  refine at_seq ?_
  refine at_reg [] [0, 1, 2, 7, 16] (L2 := [(0, .slice A s.length c), (1, .int .i64 (p : Int)), (2, .slice A2 v.length c2), (7, .int .i64 (v.length : Int)), (16, .bool ((v.length : Int) == 0))]) (obs := []) (by kernel_rfl) ?_ ?_
  · intro w hs; exact trivial
  refine at_thn ?_
  by_cases hm0 : (v.length : Int) = 0
  · refine at_cond_t rfl (beq_iff_eq.2 hm0) ?_
    have hv : v = [] := List.eq_nil_of_length_eq_zero (by omega)
    have hr : s.take p ++ v ++ s.drop p = s := by rw [hv]; simp
    refine at_seq ?_
    refine at_reg [(1, .slice A (s.take p ++ v ++ s.drop p).length c)] [6] (L2 := [(6, .slice A (s.take p ++ v ++ s.drop p).length c)]) (obs := [fun _ => (.slice A s.length c : Value) = .slice A (s.take p ++ v ++ s.drop p).length c]) (by kernel_rfl) ?_ ?_
    · intro w hs; exact (by show (_ : Value) = _; rw [hr])
    refine at_thn ?_
    refine at_ret ?_
    refine at_then_ret ?_
    refine at_drop (k := 1) rfl rfl ?_
    rw [hr]
    refine at_done (vs := [.slice A s.length c]) (obs := []) (.inl rfl) [.tmp 6] [] rfl (by kernel_rfl) (fun w hs => trivial) (fun w hs => ⟨_, _, [S1], rfl, ⟨_, _, _, rfl, rfl, ho⟩, hle, hs⟩)
  refine at_cond_f rfl (beq_eq_false_iff_ne.2 hm0) ?_
  refine at_skip ?_
  refine at_thn ?_
  refine at_seq ?_
  refine at_reg [] [0, 1, 2, 7, 8] (L2 := [(0, .slice A s.length c), (1, .int .i64 (p : Int)), (2, .slice A2 v.length c2), (7, .int .i64 (v.length : Int)), (8, .int .i64 (s.length : Int))]) (obs := []) (by kernel_rfl) ?_ ?_
  · intro w hs; exact trivial
  refine at_thn ?_
  refine at_seq ?_
  refine at_seq ?_
  refine at_reg [] [0, 1, 2, 7, 8, 22] (L2 := [(0, .slice A s.length c), (1, .int .i64 (p : Int)), (2, .slice A2 v.length c2), (7, .int .i64 (v.length : Int)), (8, .int .i64 (s.length : Int)), (22, .bool ((p : Int) == (s.length : Int)))]) (obs := []) (by kernel_rfl) ?_ ?_
  · intro w hs; exact trivial
  refine at_thn ?_
  by_cases hpn : (p : Int) = (s.length : Int)
  · refine at_cond_t rfl (beq_iff_eq.2 hpn) ?_
    refine at_seq ?_
    refine at_ops [0, 1, 2, 3] rfl ?_
    refine at_seg [0, 1] [2, 3] rfl [] [23, 24] (L2 := [(23, .slice A s.length c), (24, .slice A2 v.length c2)]) (obs := []) (by kernel_rfl) ?_ ?_
    · intro w hs; exact trivial
    refine at_eff rfl rfl ?_
    have hr : s.take p ++ v ++ s.drop p = s ++ v := by rw [show p = s.length by omega]; simp
    refine eff_append (K := (Kd.raw 1)) (xs := s) (ys := v) 0 rfl rfl rfl rfl rfl und22 und22 hi_ hz_ hs_ rfl rfl rfl ho rfl (fun w hs => ho2.rowAt (k := 1) hs rfl) (by rw [hb_]; omega) (by omega) (fun A3 c3 s3 ho3 => ?_)
    refine at_seg [3] [] rfl [] [6] (L2 := [(6, .slice A3 (s ++ v).length c3)]) (obs := []) (by kernel_rfl) ?_ ?_
    · intro w hs; exact trivial
    refine at_end ?_
    refine at_thn ?_
    refine at_ret ?_
    refine at_then_ret ?_
    refine at_drop (k := 1) rfl rfl ?_
    rw [hr]
    refine at_done (vs := [.slice A3 (s ++ v).length c3]) (obs := []) (.inl rfl) [.tmp 6] [] rfl (by kernel_rfl) (fun w hs => trivial) (fun w hs => ⟨_, _, [s3], rfl, ⟨_, _, _, rfl, rfl, ho3⟩, hle, hs⟩)
  refine at_cond_f rfl (beq_eq_false_iff_ne.2 hpn) ?_
  refine at_skip ?_
  refine at_thn ?_
  rcases A with _ | a
  · exact absurd (congrArg List.length (ho.nilOf rfl)) (by simp only [List.length_nil]; omega)
  obtain ⟨b, rfl, hsp⟩ := ho.spare
  rcases A2 with _ | a2
  · exact absurd (congrArg List.length (ho2.nilOf rfl)) (by simp only [List.length_nil]; omega)
  refine at_seq ?_
  refine at_seq ?_
  refine at_reg [(2, .int .i64 ((s.length + v.length : Nat) : Int))] [0, 1, 2, 7, 8, 31] (L2 := [(0, .slice (some ⟨b, 0, none⟩) s.length c), (1, .int .i64 (p : Int)), (2, .slice (some a2) v.length c2), (7, .int .i64 (v.length : Int)), (8, .int .i64 (s.length : Int)), (31, .bool (decide (((s.length + v.length : Nat) : Int) > (c : Int))))]) (obs := [fun _ => (.int .i64 (IntKind.i64.wrap ((s.length : Int) + (v.length : Int))) : Value) = .int .i64 ((s.length + v.length : Nat) : Int)]) (by kernel_rfl) ?_ ?_
  · intro w hs; exact wrapN (by omega) (by omega)
  refine at_thn ?_
  by_cases hg : ((s.length + v.length : Nat) : Int) > (c : Int)
  · refine at_cond_t rfl (decide_eq_true hg) ?_
    have htp : (s.take p).length = p := by rw [List.length_take]; omega
    refine at_seq ?_
    refine at_ops [0, 1, 2, 3, 4, 5, 6, 7, 8, 9] rfl ?_
    refine at_seg [0, 1, 2, 3, 4, 5, 6, 7] [8, 9] rfl [(2, .slice (some ⟨b, 0, none⟩) (s.take p).length c), (5, .int .i64 ((s.length + v.length : Nat) : Int)), (7, .int .i64 ((s.length + v.length - p : Nat) : Int))] [0, 1, 2, 7, 8, 34, 39] (L2 := [(0, .slice (some ⟨b, 0, none⟩) s.length c), (1, .int .i64 (p : Int)), (2, .slice (some a2) v.length c2), (7, .int .i64 (v.length : Int)), (8, .int .i64 (s.length : Int)), (34, .slice (some ⟨b, 0, none⟩) (s.take p).length c), (39, .int .i64 ((s.length + v.length - p : Nat) : Int))]) (obs := [fun _ => 0 ≤ (0 : Int) ∧ (0 : Int) ≤ (p : Int) ∧ (p : Int) ≤ ((c : Nat) : Int), fun _ => cutV (some ⟨b, 0, none⟩) c 1 0 p = .slice (some ⟨b, 0, none⟩) (s.take p).length c, fun _ => (.int .i64 (IntKind.i64.wrap ((s.length : Int) + (v.length : Int))) : Value) = .int .i64 ((s.length + v.length : Nat) : Int), fun _ => (.int .i64 (IntKind.i64.wrap (((s.length + v.length : Nat) : Int) - (p : Int))) : Value) = .int .i64 ((s.length + v.length - p : Nat) : Int)]) (by kernel_rfl) ?_ ?_
    · intro w hs; exact ⟨⟨by omega, by omega, by omega⟩, cut_own ho hps, wrapN (by omega) (by omega), wrapN (by omega) (by omega)⟩
    refine at_eff rfl rfl ?_
    refine eff_appendMake (K := (Kd.raw 1)) (d := ([.slice none ([] : List Int).length 0] : List Value)) (xs := s.take p) (m := ((s.length + v.length - p : Nat) : Int)) rfl rfl rfl rfl rfl und22 und3 hi_ hz_ hs_ (fun _ => ⟨rfl, rfl, rfl⟩) rfl rfl (by omega) (by rw [Int.toNat_natCast]; omega) (fun w hs => (ho.take p hps).rowAt (k := 0) hs rfl) (by rw [hb_, Int.toNat_natCast]; omega) (by rw [Int.toNat_natCast]; omega) (fun b2 c3 s3 ho3 => ?_)
    simp only [Int.toNat_natCast] at ho3 ⊢
    have hgl : (s.take p ++ List.replicate (s.length + v.length - p) (([.slice none ([] : List Int).length 0] : List Value) : (List Value))).length = s.length + v.length := by simp only [List.length_append, List.length_take, List.length_replicate]; omega
    have hc3 := ho3.cap
    rw [hgl] at hc3
    obtain ⟨b2', e2_, hsp3⟩ := ho3.spare
    cases e2_
    refine at_seg [9] [] rfl [(9, .slice (some ⟨b2, 0, none⟩) (s.length + v.length) c3)] [0, 1, 2, 7, 8, 9] (L2 := [(0, .slice (some ⟨b, 0, none⟩) s.length c), (1, .int .i64 (p : Int)), (2, .slice (some a2) v.length c2), (7, .int .i64 (v.length : Int)), (8, .int .i64 (s.length : Int)), (9, .slice (some ⟨b2, 0, none⟩) (s.length + v.length) c3)]) (obs := [fun _ => (.slice (some ⟨b2, 0, none⟩) (s.take p ++ List.replicate (s.length + v.length - p) (([.slice none ([] : List Int).length 0] : List Value) : (List Value))).length c3 : Value) = .slice (some ⟨b2, 0, none⟩) (s.length + v.length) c3]) (by kernel_rfl) ?_ ?_
    · intro w hs; show (_ : Value) = _; rw [hgl]
    refine at_end ?_
    refine at_thn ?_
    refine at_seq ?_
    refine at_ops [0, 1, 2, 3, 4] rfl ?_
    refine at_seg [0, 1, 2, 3] [4] rfl [(2, .slice (some ⟨b2, p * 1, none⟩) (s.length + v.length - p) (c3 - p))] [0, 1, 2, 7, 8, 9, 43, 44] (L2 := [(0, .slice (some ⟨b, 0, none⟩) s.length c), (1, .int .i64 (p : Int)), (2, .slice (some a2) v.length c2), (7, .int .i64 (v.length : Int)), (8, .int .i64 (s.length : Int)), (9, .slice (some ⟨b2, 0, none⟩) (s.length + v.length) c3), (43, .slice (some ⟨b2, p * 1, none⟩) (s.length + v.length - p) (c3 - p)), (44, .slice (some a2) v.length c2)]) (obs := [fun _ => 0 ≤ (p : Int) ∧ (p : Int) ≤ ((s.length + v.length : Nat) : Int) ∧ ((s.length + v.length : Nat) : Int) ≤ ((c3 : Nat) : Int), fun _ => cutV (some ⟨b2, 0, none⟩) c3 1 p (s.length + v.length) = .slice (some ⟨b2, p * 1, none⟩) (s.length + v.length - p) (c3 - p)]) (by kernel_rfl) ?_ ?_
    · intro w hs; exact ⟨⟨by omega, by omega, by omega⟩, cut_at (by omega)⟩
    refine at_eff rfl rfl ?_
    refine eff_copy (K := (Kd.raw 1)) (zs := v) 0 p rfl rfl rfl rfl rfl und22 hi_ hs_ rfl rfl hsp3 rfl (fun w hs => ho2.rowAt (k := 2) hs rfl) (by omega) (by omega) (fun s4 hsp4 => ?_)
    refine at_keep [0, 1, 2, 7, 8, 9] (L2 := [(0, .slice (some ⟨b, 0, none⟩) s.length c), (1, .int .i64 (p : Int)), (2, .slice (some a2) v.length c2), (7, .int .i64 (v.length : Int)), (8, .int .i64 (s.length : Int)), (9, .slice (some ⟨b2, 0, none⟩) (s.length + v.length) c3)]) rfl ?_
    refine at_end ?_
    refine at_thn ?_
    refine at_seq ?_
    refine at_x hmo (fun w => True) [8] ?_
    have hobs : (Value.int .i64 (IntKind.i64.wrap ((p : Int) + (v.length : Int))) = .int .i64 ((p + v.length : Nat) : Int)) ∧ (0 ≤ ((p + v.length : Nat) : Int) ∧ ((p + v.length : Nat) : Int) ≤ ((s.length + v.length : Nat) : Int) ∧ ((s.length + v.length : Nat) : Int) ≤ ((c3 : Nat) : Int)) ∧ (cutV (some ⟨b2, 0, none⟩) c3 1 (p + v.length) (s.length + v.length) = .slice (some ⟨b2, (p + v.length) * 1, none⟩) (s.length - p) (c3 - (p + v.length))) ∧ (0 ≤ (p : Int) ∧ (p : Int) ≤ ((s.length : Nat) : Int) ∧ ((s.length : Nat) : Int) ≤ ((c : Nat) : Int)) ∧ (cutV (some ⟨b, 0, none⟩) c 1 p s.length = .slice (some ⟨b, p * 1, none⟩) (s.drop p).length (c - p)) := ⟨wrapN (by omega) (by omega), ⟨by omega, by omega, by omega⟩, (by rw [cut_at (by omega), show s.length + v.length - (p + v.length) = s.length - p by omega]), ⟨by omega, by omega, by omega⟩, (by rw [cut_at (by omega), List.length_drop])⟩
    refine at_xseg [0, 1, 2, 3, 4, 5, 6, 7] 1 (#[true, true, true, true, true, true, true, true, false]) rfl (by kernel_rfl) [(3, .int .i64 ((p + v.length : Nat) : Int)), (4, .slice (some ⟨b2, (p + v.length) * 1, none⟩) (s.length - p) (c3 - (p + v.length))), (7, .slice (some ⟨b, p * 1, none⟩) (s.drop p).length (c - p))] [0, 1, 2, 7, 8, 9, 50, 53] (L2 := [(0, .slice (some ⟨b, 0, none⟩) s.length c), (1, .int .i64 (p : Int)), (2, .slice (some a2) v.length c2), (7, .int .i64 (v.length : Int)), (8, .int .i64 (s.length : Int)), (9, .slice (some ⟨b2, 0, none⟩) (s.length + v.length) c3), (50, .slice (some ⟨b2, (p + v.length) * 1, none⟩) (s.length - p) (c3 - (p + v.length))), (53, .slice (some ⟨b, p * 1, none⟩) (s.drop p).length (c - p))]) (obs := [fun _ => (.int .i64 (IntKind.i64.wrap ((p : Int) + (v.length : Int))) : Value) = .int .i64 ((p + v.length : Nat) : Int), fun _ => 0 ≤ ((p + v.length : Nat) : Int) ∧ ((p + v.length : Nat) : Int) ≤ ((s.length + v.length : Nat) : Int) ∧ ((s.length + v.length : Nat) : Int) ≤ ((c3 : Nat) : Int), fun _ => cutV (some ⟨b2, 0, none⟩) c3 1 (p + v.length) (s.length + v.length) = .slice (some ⟨b2, (p + v.length) * 1, none⟩) (s.length - p) (c3 - (p + v.length)), fun _ => 0 ≤ (p : Int) ∧ (p : Int) ≤ ((s.length : Nat) : Int) ∧ ((s.length : Nat) : Int) ≤ ((c : Nat) : Int), fun _ => cutV (some ⟨b, 0, none⟩) c 1 p s.length = .slice (some ⟨b, p * 1, none⟩) (s.drop p).length (c - p)]) (by kernel_rfl) (by kernel_rfl) (by kernel_rfl) (.inr fun w hs => trivial) (fun w hS => hobs) (fun w hs => hobs) ?_
    refine at_x1 0 8 (#[true, true, true, true, true, true, true, true, true]) rfl (by kernel_rfl) (by kernel_rfl) rfl rfl ?_
    refine eff_copy (K := (Kd.raw 1)) (zs := s.drop p) 0 (p + v.length) rfl rfl rfl rfl rfl und22 hi_ hs_ rfl rfl hsp4 rfl (fun w hs => hsp.rowAt (k := 1) p (s.drop p) (fun j x hx => spare_get2 p j x hx) hs rfl) (by simp only [List.length_drop]; omega) (by simp only [List.length_drop]; omega) (fun s5 hsp5 => ?_)
    refine at_xX (by kernel_rfl) ?_
    refine at_xend (by kernel_rfl) ?_
    refine at_thn ?_
    have hown : Own (Kd.raw 1) 25 I0 (some ⟨b2, 0, none⟩) c3 (s.take p ++ v ++ s.drop p) s5 := hsp5.own (lay_ins hps (by simp only [List.length_append, List.length_map, List.length_replicate, List.length_take]; omega) (fun j hj => grown_get hps j hj)) (by omega)
    refine at_seq ?_
    refine at_reg [(1, .slice (some ⟨b2, 0, none⟩) (s.take p ++ v ++ s.drop p).length c3)] [6] (L2 := [(6, .slice (some ⟨b2, 0, none⟩) (s.take p ++ v ++ s.drop p).length c3)]) (obs := [fun _ => (.slice (some ⟨b2, 0, none⟩) (s.length + v.length) c3 : Value) = .slice (some ⟨b2, 0, none⟩) (s.take p ++ v ++ s.drop p).length c3]) (by kernel_rfl) ?_ ?_
    · intro w hs; exact (by show (_ : Value) = _; rw [hrl])
    refine at_thn ?_
    refine at_ret ?_
    refine at_then_ret ?_
    refine at_drop (k := 2) rfl rfl ?_
    refine at_drop (k := 1) rfl rfl ?_
    refine at_done (vs := [.slice (some ⟨b2, 0, none⟩) (s.take p ++ v ++ s.drop p).length c3]) (obs := []) (.inl rfl) [.tmp 6] [] rfl (by kernel_rfl) (fun w hs => trivial) (fun w hs => ⟨_, _, [s5], rfl, ⟨_, _, _, rfl, rfl, hown⟩, hle, hs⟩)
  refine at_cond_f rfl (decide_eq_false hg) ?_
  refine at_skip ?_
  refine at_thn ?_
  refine at_seq ?_
  refine at_reg [(3, .int .i64 ((s.length + v.length : Nat) : Int)), (4, .slice (some ⟨b, 0, none⟩) (s.length + v.length) c)] [0, 1, 2, 7, 8] (L2 := [(0, .slice (some ⟨b, 0, none⟩) (s.length + v.length) c), (1, .int .i64 (p : Int)), (2, .slice (some a2) v.length c2), (7, .int .i64 (v.length : Int)), (8, .int .i64 (s.length : Int))]) (obs := [fun _ => (.int .i64 (IntKind.i64.wrap ((s.length : Int) + (v.length : Int))) : Value) = .int .i64 ((s.length + v.length : Nat) : Int), fun _ => 0 ≤ (0 : Int) ∧ (0 : Int) ≤ ((s.length + v.length : Nat) : Int) ∧ ((s.length + v.length : Nat) : Int) ≤ ((c : Nat) : Int), fun _ => cutV (some ⟨b, 0, none⟩) c 1 0 (s.length + v.length) = .slice (some ⟨b, 0, none⟩) (s.length + v.length) c]) (by kernel_rfl) ?_ ?_
  · intro w hs; exact ⟨wrapN (by omega) (by omega), ⟨by omega, by omega, by omega⟩, cut_zero⟩
  refine at_thn ?_
  refine at_seq ?_
  refine at_seq ?_
  refine at_ops [0, 1, 2, 3, 4, 5, 6, 7] rfl ?_
  refine at_seg [0, 1, 2, 3, 4, 5] [6, 7] rfl [(4, .int .i64 ((p + v.length : Nat) : Int)), (5, .slice (some ⟨b, (p + v.length) * 1, none⟩) (s.length - p) (c - (p + v.length)))] [0, 1, 2, 7, 8, 61, 66] (L2 := [(0, .slice (some ⟨b, 0, none⟩) (s.length + v.length) c), (1, .int .i64 (p : Int)), (2, .slice (some a2) v.length c2), (7, .int .i64 (v.length : Int)), (8, .int .i64 (s.length : Int)), (61, .slice (some a2) v.length c2), (66, .slice (some ⟨b, (p + v.length) * 1, none⟩) (s.length - p) (c - (p + v.length)))]) (obs := [fun _ => (.int .i64 (IntKind.i64.wrap ((p : Int) + (v.length : Int))) : Value) = .int .i64 ((p + v.length : Nat) : Int), fun _ => 0 ≤ ((p + v.length : Nat) : Int) ∧ ((p + v.length : Nat) : Int) ≤ ((s.length + v.length : Nat) : Int) ∧ ((s.length + v.length : Nat) : Int) ≤ ((c : Nat) : Int), fun _ => cutV (some ⟨b, 0, none⟩) c 1 (p + v.length) (s.length + v.length) = .slice (some ⟨b, (p + v.length) * 1, none⟩) (s.length - p) (c - (p + v.length))]) (by kernel_rfl) ?_ ?_
  · intro w hs; exact ⟨wrapN (by omega) (by omega), ⟨by omega, by omega, by omega⟩, (by show (_ : Value) = _; rw [cut_at (by omega), show s.length + v.length - (p + v.length) = s.length - p by omega])⟩
  refine at_eff rfl rfl ?_
  refine eff_overlapsOwn (K := (Kd.raw 1)) (fn := Try.f64) (tS := 22) (tR := 4) 1 0 rfl rfl Try.func64 (by kernel_rfl) (by kernel_rfl) (by kernel_rfl) (by kernel_rfl) rfl und22 hi_ rfl ho2 hsp rfl rfl (by decide) (by omega) (by decide) ?_
  refine at_seg [7] [] rfl [] [0, 1, 2, 7, 8, 68] (L2 := [(0, .slice (some ⟨b, 0, none⟩) (s.length + v.length) c), (1, .int .i64 (p : Int)), (2, .slice (some a2) v.length c2), (7, .int .i64 (v.length : Int)), (8, .int .i64 (s.length : Int)), (68, .bool (!false))]) (obs := []) (by kernel_rfl) ?_ ?_
  · intro w hs; exact trivial
  refine at_end ?_
  refine at_thn ?_
  refine at_cond_t rfl rfl ?_
  refine at_seq ?_
  refine at_x hmo (fun w => True) [8] ?_
  have hobs : (Value.int .i64 (IntKind.i64.wrap ((p : Int) + (v.length : Int))) = .int .i64 ((p + v.length : Nat) : Int)) ∧ (0 ≤ ((p + v.length : Nat) : Int) ∧ ((p + v.length : Nat) : Int) ≤ ((s.length + v.length : Nat) : Int) ∧ ((s.length + v.length : Nat) : Int) ≤ ((c : Nat) : Int)) ∧ (cutV (some ⟨b, 0, none⟩) c 1 (p + v.length) (s.length + v.length) = .slice (some ⟨b, (p + v.length) * 1, none⟩) (s.length - p) (c - (p + v.length))) ∧ (0 ≤ (p : Int) ∧ (p : Int) ≤ ((s.length + v.length : Nat) : Int) ∧ ((s.length + v.length : Nat) : Int) ≤ ((c : Nat) : Int)) ∧ (cutV (some ⟨b, 0, none⟩) c 1 p (s.length + v.length) = .slice (some ⟨b, p * 1, none⟩) (s.length + v.length - p) (c - p)) := ⟨wrapN (by omega) (by omega), ⟨by omega, by omega, by omega⟩, (by rw [cut_at (by omega), show s.length + v.length - (p + v.length) = s.length - p by omega]), ⟨by omega, by omega, by omega⟩, cut_at (by omega)⟩
  refine at_xseg [0, 1, 2, 3, 4, 5, 6, 7] 1 (#[true, true, true, true, true, true, true, true, false]) rfl (by kernel_rfl) [(3, .int .i64 ((p + v.length : Nat) : Int)), (4, .slice (some ⟨b, (p + v.length) * 1, none⟩) (s.length - p) (c - (p + v.length))), (7, .slice (some ⟨b, p * 1, none⟩) (s.length + v.length - p) (c - p))] [0, 1, 2, 7, 8, 73, 76] (L2 := [(0, .slice (some ⟨b, 0, none⟩) (s.length + v.length) c), (1, .int .i64 (p : Int)), (2, .slice (some a2) v.length c2), (7, .int .i64 (v.length : Int)), (8, .int .i64 (s.length : Int)), (73, .slice (some ⟨b, (p + v.length) * 1, none⟩) (s.length - p) (c - (p + v.length))), (76, .slice (some ⟨b, p * 1, none⟩) (s.length + v.length - p) (c - p))]) (obs := [fun _ => (.int .i64 (IntKind.i64.wrap ((p : Int) + (v.length : Int))) : Value) = .int .i64 ((p + v.length : Nat) : Int), fun _ => 0 ≤ ((p + v.length : Nat) : Int) ∧ ((p + v.length : Nat) : Int) ≤ ((s.length + v.length : Nat) : Int) ∧ ((s.length + v.length : Nat) : Int) ≤ ((c : Nat) : Int), fun _ => cutV (some ⟨b, 0, none⟩) c 1 (p + v.length) (s.length + v.length) = .slice (some ⟨b, (p + v.length) * 1, none⟩) (s.length - p) (c - (p + v.length)), fun _ => 0 ≤ (p : Int) ∧ (p : Int) ≤ ((s.length + v.length : Nat) : Int) ∧ ((s.length + v.length : Nat) : Int) ≤ ((c : Nat) : Int), fun _ => cutV (some ⟨b, 0, none⟩) c 1 p (s.length + v.length) = .slice (some ⟨b, p * 1, none⟩) (s.length + v.length - p) (c - p)]) (by kernel_rfl) (by kernel_rfl) (by kernel_rfl) (.inr fun w hs => trivial) (fun w hS => hobs) (fun w hs => hobs) ?_
  refine at_x1 0 8 (#[true, true, true, true, true, true, true, true, true]) rfl (by kernel_rfl) (by kernel_rfl) rfl rfl ?_
  refine eff_copyPart (K := (Kd.raw 1)) (zs := s.drop p) 0 (p + v.length) rfl rfl rfl rfl rfl und22 hi_ hs_ rfl rfl hsp rfl (fun w hs => hsp.rowAt (k := 0) p (s.drop p) (fun j x hx => spare_get2 p j x hx) hs rfl) (by simp only [List.length_drop]; omega) (by simp only [List.length_drop]; omega) (fun s5 hsp5 => ?_)
  refine at_xX (by kernel_rfl) ?_
  refine at_xend (by kernel_rfl) ?_
  refine at_thn ?_
  refine at_keep [0, 1, 2, 7, 8] (L2 := [(0, .slice (some ⟨b, 0, none⟩) (s.length + v.length) c), (1, .int .i64 (p : Int)), (2, .slice (some a2) v.length c2), (7, .int .i64 (v.length : Int)), (8, .int .i64 (s.length : Int))]) rfl ?_
  refine at_seq ?_
  refine at_ops [0, 1, 2, 3, 4] rfl ?_
  refine at_seg [0, 1, 2, 3] [4] rfl [(2, .slice (some ⟨b, p * 1, none⟩) (s.length + v.length - p) (c - p))] [0, 1, 2, 7, 8, 80, 81] (L2 := [(0, .slice (some ⟨b, 0, none⟩) (s.length + v.length) c), (1, .int .i64 (p : Int)), (2, .slice (some a2) v.length c2), (7, .int .i64 (v.length : Int)), (8, .int .i64 (s.length : Int)), (80, .slice (some ⟨b, p * 1, none⟩) (s.length + v.length - p) (c - p)), (81, .slice (some a2) v.length c2)]) (obs := [fun _ => 0 ≤ (p : Int) ∧ (p : Int) ≤ ((s.length + v.length : Nat) : Int) ∧ ((s.length + v.length : Nat) : Int) ≤ ((c : Nat) : Int), fun _ => cutV (some ⟨b, 0, none⟩) c 1 p (s.length + v.length) = .slice (some ⟨b, p * 1, none⟩) (s.length + v.length - p) (c - p)]) (by kernel_rfl) ?_ ?_
  · intro w hs; exact ⟨⟨by omega, by omega, by omega⟩, cut_at (by omega)⟩
  refine at_eff rfl rfl ?_
  refine eff_copy (K := (Kd.raw 1)) (zs := v) 0 p rfl rfl rfl rfl rfl und22 hi_ hs_ rfl rfl hsp5 rfl (fun w hs => ho2.rowAt (k := 1) hs rfl) (by omega) (by omega) (fun s6 hsp6 => ?_)
  refine at_keep [0] (L2 := [(0, .slice (some ⟨b, 0, none⟩) (s.length + v.length) c)]) rfl ?_
  refine at_end ?_
  refine at_thn ?_
  have hown : Own (Kd.raw 1) 25 I0 (some ⟨b, 0, none⟩) c (s.take p ++ v ++ s.drop p) s6 := hsp6.own (lay_ins2 hps (by simp only [List.length_append, List.length_map, List.length_replicate]; omega) (fun j hj => spare_get j (by omega))) (by omega)
  refine at_seq ?_
  refine at_reg [(1, .slice (some ⟨b, 0, none⟩) (s.take p ++ v ++ s.drop p).length c)] [6] (L2 := [(6, .slice (some ⟨b, 0, none⟩) (s.take p ++ v ++ s.drop p).length c)]) (obs := [fun _ => (.slice (some ⟨b, 0, none⟩) (s.length + v.length) c : Value) = .slice (some ⟨b, 0, none⟩) (s.take p ++ v ++ s.drop p).length c]) (by kernel_rfl) ?_ ?_
  · intro w hs; exact (by show (_ : Value) = _; rw [hrl])
  refine at_thn ?_
  refine at_ret ?_
  refine at_then_ret ?_
  refine at_drop (k := 1) rfl rfl ?_
  refine at_done (vs := [.slice (some ⟨b, 0, none⟩) (s.take p ++ v ++ s.drop p).length c]) (obs := []) (.inl rfl) [.tmp 6] [] rfl (by kernel_rfl) (fun w hs => trivial) (fun w hs => ⟨_, _, [s6], rfl, ⟨_, _, _, rfl, rfl, hown⟩, hle, hs⟩)
def slices_Insert_int64_int64' (s : List (List Int)) (i : Int) (v : List (List Int)) : Option (List (List Int)) := if s.length + v.length ≤ 5864062014805 then (if 0 ≤ i then (if i ≤ (s.length : Int) then some (s.take i.toNat ++ v ++ s.drop i.toNat) else none) else none) else none
theorem slices_Insert_int64_int64'.calls {s : List (List Int)} {i : Int} {v r : List (List Int)} {I0 : Imm} {A A2 : Option Addr} {c c2 : Nat} {S1 S2 : Seg} (H : slices_Insert_int64_int64' s i v = some r) (ho : DOwn (DK.sl (Kd.int .i64) 2) 25 I0 A c s S1) (ho2 : DOwn (DK.sl (Kd.int .i64) 2) 25 I0 A2 c2 v S2) :
    Meets Try.prog 53 ([.slice A s.length c, .int .i64 i, .slice A2 v.length c2] : List Value).toArray I0 [S1, S2] (fun u J M => ∃ (A_1 : Option Addr) (c_2 : Nat) (s_3 : Seg), u = .slice A_1 r.length c_2 ∧ M = [s_3] ∧ DOwn (DK.sl (Kd.int .i64) 2) 25 J A_1 c_2 r s_3) := by
  unfold slices_Insert_int64_int64' at H
  obtain ⟨hl, H⟩ := ite_some H
  obtain ⟨h0, H⟩ := ite_some H
  obtain ⟨h1, H⟩ := ite_some H
  obtain rfl := Option.some.inj H
  refine insertD (p := i.toNat) (fun hs gs so to e1 e2 g1 g2 => ?_) ho ho2
  exact slices_Insert_int64_int64.calls (r := hs.take i.toNat ++ gs ++ hs.drop i.toNat) (by unfold slices_Insert_int64_int64; rw [if_pos (by rw [e1, e2]; exact hl), if_pos h0, if_pos (by rw [e1]; exact h1)]) g1 g2

/-! ### loop.example/g00146/impl.push: function 35 -/
def impl_push (k : Nat) (p111 : T_impl_Ring) (p115 : List Int) : Option T_impl_Ring := (impl_ownLists k p111.Items).bind fun b9 => ((slices_Clone_int64_int64 p115).bind fun b10 => ((slices_Insert_int64_int64' b9 0 ([b10] : List (List Int))).bind fun b11 => (if 0 ≤ (mn (b11.length : Int) 10) then (if (mn (b11.length : Int) 10) ≤ (b11.length : Int) then (some (⟨b11.take (mn (b11.length : Int) 10).toNat, 0⟩ : T_impl_Ring)) else none) else none)))
set_option maxHeartbeats 4000000 in
set_option maxRecDepth 100000 in
theorem impl_push.calls {k : Nat} {p111 : T_impl_Ring} {p115 : List Int} {r : T_impl_Ring} {I0 : Imm} {A112 : Option Addr} {c113 : Nat} {A116 : Option Addr} {c117 : Nat} (H : impl_push k p111 p115 = some r) (hr114 : Rd (Kd.slice (Kd.int .i64)) I0 A112 c113 p111.Items) (hr118 : Rd (Kd.int .i64) I0 A116 c117 p115) :
    Meets Try.prog 35 ([.agg #[.slice A112 p111.Items.length c113, .int .i64 p111.At], .slice A116 p115.length c117] : List Value).toArray I0 [] (fun v J M => ∃ (A_1 : Option Addr) (c_2 : Nat) (s_3 : Seg), v = .agg #[.slice A_1 r.Items.length c_2, .int .i64 r.At] ∧ M = [s_3] ∧ DOwn (DK.sl (Kd.int .i64) 2) 25 J A_1 c_2 r.Items s_3) := by
  have hle := ImmLe.refl I0
  unfold impl_push at H
  refine fn_intro (fn := Try.f35) 19 Try.func35 rfl rfl rfl (fun E Fs => ?_)
  refine at_seq ?_
  refine at_ops [0, 1] rfl ?_
  refine at_eff rfl rfl ?_
  refine eff_box rfl rfl rfl #[.slice A112 p111.Items.length c113, .int .i64 p111.At] rfl (fun g119 => ?_)
  refine at_eff rfl rfl ?_
  obtain ⟨i_, hi_, hz_, _, _⟩ := info27
  refine eff_alloc rfl rfl hi_ hz_ #[.slice none ([] : List (List Int)).length 0, .int .i64 0] rfl (fun g120 => ?_)
  refine at_end ?_
  refine at_thn ?_
  refine at_seq ?_
  refine at_ops [0, 1, 2, 3, 4, 5, 6, 7] rfl ?_
  refine at_seg [0, 1] [2, 3, 4, 5, 6, 7] rfl [(1, .slice A112 p111.Items.length c113)] [1, 4, 7] (L2 := [(1, .slice A116 p115.length c117), (4, .pointer (some ⟨g120, 0, none⟩)), (7, .slice A112 p111.Items.length c113)]) (obs := [fun w => w.cell? ⟨g119, 0, none⟩ = some (.slice A112 p111.Items.length c113)]) (by kernel_rfl) ?_ ?_
  · intro w hs; exact hs.var (k := 1) rfl 0 rfl
  refine at_eff rfl rfl ?_
  obtain ⟨b9, H121, H⟩ := bind_some H
  have hm_ := impl_ownLists.calls (I0 := I0) H121 hr114
  refine eff_call rfl rfl ok52 rfl rfl (show Meets Try.prog 52 ([.slice A112 p111.Items.length c113] : List Value).toArray _ [] _ from hm_) (Mr := ([(g120, .cells #[.slice none ([] : List (List Int)).length 0, .int .i64 0] 27 (0, 0))] :: [(g119, .cells #[.slice A112 p111.Items.length c113, .int .i64 p111.At] 27 (0, 0))] :: Fs)) (List.Perm.refl _) (fun v122 J123 M124 hq125 hJ126 => ?_)
  replace hle := hle.trans hJ126
  replace hr114 := hr114.mono hJ126
  replace hr118 := hr118.mono hJ126
  obtain ⟨A127, c128, s129, rfl, rfl, ho130⟩ := hq125
  refine at_seg [3] [4, 5, 6, 7] rfl [] [4, 8, 9] (L2 := [(4, .pointer (some ⟨g120, 0, none⟩)), (8, .slice A127 b9.length c128), (9, .slice A116 p115.length c117)]) (obs := []) (by kernel_rfl) ?_ ?_
  · intro w hs; exact trivial
  refine at_eff rfl rfl ?_
  obtain ⟨b10, H131, H⟩ := bind_some H
  have hm_ := slices_Clone_int64_int64.calls (I0 := J123) H131 hr118
  refine eff_call rfl rfl ok48 rfl rfl (show Meets Try.prog 48 ([.slice A116 p115.length c117] : List Value).toArray _ [] _ from hm_) (Mr := (s129 :: [(g120, .cells #[.slice none ([] : List (List Int)).length 0, .int .i64 0] 27 (0, 0))] :: [(g119, .cells #[.slice A112 p111.Items.length c113, .int .i64 p111.At] 27 (0, 0))] :: Fs)) (List.Perm.refl _) (fun v132 J133 M134 hq135 hJ136 => ?_)
  replace hle := hle.trans hJ136
  replace ho130 := ho130.mono hJ136
  replace hr114 := hr114.mono hJ136
  replace hr118 := hr118.mono hJ136
  obtain ⟨A137, c138, s139, rfl, rfl, ho140⟩ := hq135
  refine at_eff rfl rfl ?_
  refine eff_buildSlice (e := 25) (cells := #[.slice A137 b10.length c138]) ([b10] : List (List Int)).length rfl rfl rfl (by kernel_rfl) (fun g141 => ?_)
  have hd142 := own_lit (K := Kd.raw 1) (e := 25) (I := J133) (xs := ([[.slice A137 b10.length c138]] : List (List Value))) (css := ([[.slice A137 b10.length c138]] : List (List Value))) (cells := #[.slice A137 b10.length c138]) (b := g141) ⟨⟨rfl, rfl, rfl⟩, trivial⟩ rfl
  refine at_merge 1 0 rfl rfl rfl ?_
  replace hd142 : DOwn (DK.sl (Kd.int .i64) 2) 25 J133 (some ⟨g141, 0, none⟩ : Option Addr) (([b10] : List (List Int)).length) ([b10] : List (List Int)) (s139 ++ [(g141, .cells #[.slice A137 b10.length c138] 25 (0, 0))]) := DOwn.lit (hs := [[.slice A137 b10.length c138]]) (sis := [s139]) hd142 ⟨⟨_, _, rfl, ho140⟩, trivial⟩ (perm_lit1 _ _)
  refine at_eff rfl rfl ?_
  obtain ⟨b11, H143, H⟩ := bind_some H
  have hm_ := slices_Insert_int64_int64'.calls (I0 := J133) H143 ho130 hd142
  refine eff_call rfl rfl ok53 rfl rfl (show Meets Try.prog 53 ([.slice A127 b9.length c128, .int .i64 0, .slice (some ⟨g141, 0, none⟩ : Option Addr) ([b10] : List (List Int)).length (([b10] : List (List Int)).length)] : List Value).toArray _ [s129, (s139 ++ [(g141, .cells #[.slice A137 b10.length c138] 25 (0, 0))])] _ from hm_) (Mr := ([(g120, .cells #[.slice none ([] : List (List Int)).length 0, .int .i64 0] 27 (0, 0))] :: [(g119, .cells #[.slice A112 p111.Items.length c113, .int .i64 p111.At] 27 (0, 0))] :: Fs)) ((perm_at (k := 1) rfl).trans ((List.Perm.refl _).cons _)) (fun v144 J145 M146 hq147 hJ148 => ?_)
  replace hle := hle.trans hJ148
  replace hr114 := hr114.mono hJ148
  replace hr118 := hr118.mono hJ148
  obtain ⟨A149, c150, s151, rfl, rfl, ho152⟩ := hq147
  refine at_seg [7] [] rfl [] [4, 5] (L2 := [(4, .pointer (some ⟨g120, 0, none⟩)), (5, .slice A149 b11.length c150)]) (obs := []) (by kernel_rfl) ?_ ?_
  · intro w hs; exact trivial
  refine at_end ?_
  refine at_thn ?_
  refine at_seq ?_
  refine at_ops [0, 1, 2, 3, 4, 5, 6] rfl ?_
  obtain ⟨h153, H⟩ := ite_some H
  obtain ⟨h154, H⟩ := ite_some H
  have ho155 := ho152.take (mn (b11.length : Int) 10).toNat (nat_le h153 h154)
  refine at_seg [0, 1, 2, 3, 4, 5] [6] rfl [(4, .slice A149 (b11.take (mn (b11.length : Int) 10).toNat).length c150)] [4, 18] (L2 := [(4, .pointer (some ⟨g120, 0, none⟩)), (18, .agg #[.slice A149 (b11.take (mn (b11.length : Int) 10).toNat).length c150, .int .i64 0])]) (obs := [fun _ => 0 ≤ (0 : Int) ∧ (0 : Int) ≤ (mn (b11.length : Int) 10) ∧ (mn (b11.length : Int) 10) ≤ ((c150 : Nat) : Int), fun _ => cutV A149 c150 1 0 (mn (b11.length : Int) 10).toNat = .slice A149 (b11.take (mn (b11.length : Int) 10).toNat).length c150]) (by kernel_rfl) ?_ ?_
  · intro w hs; exact ⟨⟨Int.le_refl _, h153, Int.le_trans h154 (Int.ofNat_le.2 ho152.cap)⟩, cut_downD ho152 (nat_le h153 h154)⟩
  refine at_eff rfl rfl ?_
  refine eff_store 1 rfl rfl rfl rfl rfl rfl (.inl (Nat.le_refl _)) rfl (Nat.le_of_ble_eq_true (by kernel_rfl)) rfl ?_
  refine at_end ?_
  refine at_thn ?_
  refine at_ret ?_
  obtain rfl := Option.some.inj H
  refine at_drop (k := 2) rfl rfl ?_
  refine at_done (vs := [.agg #[.slice A149 (b11.take (mn (b11.length : Int) 10).toNat).length c150, .int .i64 0]]) (obs := [fun w => CellsAt w ⟨g120, 0, none⟩ [.slice A149 (b11.take (mn (b11.length : Int) 10).toNat).length c150, .int .i64 0] 0]) (.inl rfl) [.cell 4 27] [(4, .agg #[.slice A149 (b11.take (mn (b11.length : Int) 10).toNat).length c150, .int .i64 0])] rfl (by kernel_rfl) (fun w hs => cellsV (k := 1) hs rfl _ 0 (Nat.le_of_ble_eq_true (by kernel_rfl)) rfl) (fun w hs => ⟨_, _, [s151], rfl, ⟨A149, c150, s151, rfl, rfl, ho155⟩, hle, (hs.tail (perm_at (k := 1) rfl))⟩)

/-! ### slices.Grow[[]int64,int64]: function 60 -/
def slices_Grow_int64_int64 (p116 : Int) : Option (List Int) := if p116 < 0 then (none) else (if (IntKind.i64.wrap (p116 - (IntKind.i64.wrap (0 - (([] : List Int).length : Int))))) > 0 then (if (IntKind.i64.wrap (p116 - (IntKind.i64.wrap (0 - (([] : List Int).length : Int))))) ≤ 17592186044416 then (if 0 ≤ (([] : List Int).length : Int) then (if (([] : List Int).length : Int) ≤ ((([] : List Int) ++ List.replicate (IntKind.i64.wrap (p116 - (IntKind.i64.wrap (0 - (([] : List Int).length : Int))))).toNat 0).length : Int) then (some ((([] : List Int) ++ List.replicate (IntKind.i64.wrap (p116 - (IntKind.i64.wrap (0 - (([] : List Int).length : Int))))).toNat 0).take (([] : List Int).length : Int).toNat)) else none) else none) else none) else (some ([] : List Int)))
set_option maxHeartbeats 4000000 in
set_option maxRecDepth 100000 in
theorem slices_Grow_int64_int64.calls {p116 : Int} {r : (List Int)} {I0 : Imm} (H : slices_Grow_int64_int64 p116 = some r) :
    Meets Try.prog 60 ([.slice none ([] : List Int).length 0, .int .i64 p116] : List Value).toArray I0 [] (fun v J M => ∃ (A_1 : Option Addr) (c_2 : Nat) (s_3 : Seg), v = .slice A_1 r.length c_2 ∧ M = [s_3] ∧ Own (Kd.int .i64) 2 J A_1 c_2 r s_3) := by
  have hle := ImmLe.refl I0
  unfold slices_Grow_int64_int64 at H
  refine fn_intro (fn := Try.f60) 27 Try.func60 rfl rfl rfl (fun E Fs => ?_)
  refine at_seq ?_
  refine at_reg [] [0, 1] (L2 := [(0, .slice none ([] : List Int).length 0), (1, .int .i64 p116)]) (obs := []) (by kernel_rfl) ?_ ?_
  · intro w hs; exact trivial
  refine at_thn ?_
  refine at_seq ?_
  refine at_seq ?_
  refine at_reg [] [0, 1, 6] (L2 := [(0, .slice none ([] : List Int).length 0), (1, .int .i64 p116), (6, .bool (decide (p116 < 0)))]) (obs := []) (by kernel_rfl) ?_ ?_
  · intro w hs; exact trivial
  refine at_thn ?_
  by_cases h117 : p116 < 0
  · rw [if_pos h117] at H
    refine at_cond_t rfl (decide_eq_true h117) ?_
    exact (no_none H).elim
  · rw [if_neg h117] at H
    refine at_cond_f rfl (decide_eq_false h117) ?_
    refine at_skip ?_
    refine at_thn ?_
    refine at_seq ?_
    refine at_seq ?_
    refine at_reg [] [0, 1] (L2 := [(0, .slice none ([] : List Int).length 0), (1, .int .i64 (IntKind.i64.wrap (p116 - (IntKind.i64.wrap (0 - (([] : List Int).length : Int))))))]) (obs := []) (by kernel_rfl) ?_ ?_
    · intro w hs; exact trivial
    refine at_thn ?_
    refine at_seq ?_
    refine at_reg [] [0, 1, 16] (L2 := [(0, .slice none ([] : List Int).length 0), (1, .int .i64 (IntKind.i64.wrap (p116 - (IntKind.i64.wrap (0 - (([] : List Int).length : Int)))))), (16, .bool (decide ((IntKind.i64.wrap (p116 - (IntKind.i64.wrap (0 - (([] : List Int).length : Int))))) > 0)))]) (obs := []) (by kernel_rfl) ?_ ?_
    · intro w hs; exact trivial
    refine at_thn ?_
    by_cases h118 : (IntKind.i64.wrap (p116 - (IntKind.i64.wrap (0 - (([] : List Int).length : Int))))) > 0
    · rw [if_pos h118] at H
      refine at_cond_t rfl (decide_eq_true h118) ?_
      refine at_ops [0, 1, 2, 3, 4, 5, 6, 7, 8, 9] rfl ?_
      refine at_seg [0, 1, 2, 3, 4] [5, 6, 7, 8, 9] rfl [(3, .slice none ([] : List Int).length 0)] [0, 20, 21] (L2 := [(0, .slice none ([] : List Int).length 0), (20, .slice none ([] : List Int).length 0), (21, .int .i64 (IntKind.i64.wrap (p116 - (IntKind.i64.wrap (0 - (([] : List Int).length : Int))))))]) (obs := [fun _ => 0 ≤ (0 : Int) ∧ (0 : Int) ≤ (0 : Int) ∧ (0 : Int) ≤ ((0 : Nat) : Int), fun _ => cutV none 0 1 0 0 = .slice none ([] : List Int).length 0]) (by kernel_rfl) ?_ ?_
      · intro w hs; exact ⟨⟨by decide, by simp, by simp⟩, rfl⟩
      refine at_eff rfl rfl ?_
      refine at_nilseg ?_
      have ho119 := Own.nil (Kd.int .i64) 2 I0
      obtain ⟨h120, H⟩ := ite_some H
      obtain ⟨i_, hi_, hz_, hs_, hb_⟩ := info2
      refine eff_appendMake (K := (Kd.int .i64)) (d := 0) (xs := ([] : List Int)) (m := IntKind.i64.wrap (p116 - (IntKind.i64.wrap (0 - (([] : List Int).length : Int))))) rfl rfl rfl rfl rfl und25 und3 hi_ hz_ hs_ (fun _ => rfl) rfl rfl (by omega) (by simp only [List.length_nil] at *; omega) (fun w hs => ho119.rowAt (k := 0) hs rfl) (by rw [hb_]; simp only [List.length_nil] at *; omega) (by simp only [List.length_nil] at *; omega) (fun g121 c122 s123 ho124 => ?_)
      obtain ⟨h125, H⟩ := ite_some H
      obtain ⟨h126, H⟩ := ite_some H
      have ho127 := ho124.take (([] : List Int).length : Int).toNat (nat_le h125 h126)
      refine at_seg [6, 7, 8, 9] [] rfl [(8, .slice (some ⟨g121, 0, none⟩ : Option Addr) ((([] : List Int) ++ List.replicate (IntKind.i64.wrap (p116 - (IntKind.i64.wrap (0 - (([] : List Int).length : Int))))).toNat 0).take (([] : List Int).length : Int).toNat).length c122)] [0] (L2 := [(0, .slice (some ⟨g121, 0, none⟩ : Option Addr) ((([] : List Int) ++ List.replicate (IntKind.i64.wrap (p116 - (IntKind.i64.wrap (0 - (([] : List Int).length : Int))))).toNat 0).take (([] : List Int).length : Int).toNat).length c122)]) (obs := [fun _ => 0 ≤ (0 : Int) ∧ (0 : Int) ≤ (([] : List Int).length : Int) ∧ (([] : List Int).length : Int) ≤ ((c122 : Nat) : Int), fun _ => cutV (some ⟨g121, 0, none⟩ : Option Addr) c122 1 0 (([] : List Int).length : Int).toNat = .slice (some ⟨g121, 0, none⟩ : Option Addr) ((([] : List Int) ++ List.replicate (IntKind.i64.wrap (p116 - (IntKind.i64.wrap (0 - (([] : List Int).length : Int))))).toNat 0).take (([] : List Int).length : Int).toNat).length c122]) (by kernel_rfl) ?_ ?_
      · intro w hs; exact ⟨⟨Int.le_refl _, h125, Int.le_trans h126 (Int.ofNat_le.2 ho124.cap)⟩, cut_own ho124 (nat_le h125 h126)⟩
      refine at_end ?_
      refine at_thn ?_
      refine at_seq ?_
      refine at_reg [] [4] (L2 := [(4, .slice (some ⟨g121, 0, none⟩ : Option Addr) ((([] : List Int) ++ List.replicate (IntKind.i64.wrap (p116 - (IntKind.i64.wrap (0 - (([] : List Int).length : Int))))).toNat 0).take (([] : List Int).length : Int).toNat).length c122)]) (obs := []) (by kernel_rfl) ?_ ?_
      · intro w hs; exact trivial
      refine at_thn ?_
      refine at_ret ?_
      obtain rfl := Option.some.inj H
      refine at_drop (k := 1) rfl rfl ?_
      refine at_done (vs := [.slice (some ⟨g121, 0, none⟩ : Option Addr) ((([] : List Int) ++ List.replicate (IntKind.i64.wrap (p116 - (IntKind.i64.wrap (0 - (([] : List Int).length : Int))))).toNat 0).take (([] : List Int).length : Int).toNat).length c122]) (obs := []) (.inl rfl) [.tmp 4] [] rfl (by kernel_rfl) (fun w hs => trivial) (fun w hs => ⟨_, _, [s123], rfl, ⟨(some ⟨g121, 0, none⟩ : Option Addr), c122, s123, rfl, rfl, ho127⟩, hle, hs⟩)
    · rw [if_neg h118] at H
      refine at_cond_f rfl (decide_eq_false h118) ?_
      refine at_skip ?_
      refine at_thn ?_
      refine at_seq ?_
      refine at_reg [] [4] (L2 := [(4, .slice none ([] : List Int).length 0)]) (obs := []) (by kernel_rfl) ?_ ?_
      · intro w hs; exact trivial
      refine at_thn ?_
      refine at_ret ?_
      refine at_nilseg ?_
      have ho128 := Own.nil (Kd.int .i64) 2 I0
      obtain rfl := Option.some.inj H
      refine at_done (vs := [.slice none ([] : List Int).length 0]) (obs := []) (.inl rfl) [.tmp 4] [] rfl (by kernel_rfl) (fun w hs => trivial) (fun w hs => ⟨_, _, [[]], rfl, ⟨none, 0, [], rfl, rfl, ho128⟩, hle, hs⟩)

/-! ### slices.Concat[[]int64,int64]: function 49 -/
mutual
def slices_Concat_int64_int64_l1 : Nat → Int → Int → (List (List Int)) → Option (List Int)
  | 0, _, _, _ => none
  | k + 1, x250, x251, p110 => if x251 < (p110.length : Int) then (if 0 ≤ x251 then (if (IntKind.i64.wrap (x250 + ((rdA [] p110 x251).length : Int))) < 0 then (none) else (slices_Concat_int64_int64_l1 k (IntKind.i64.wrap (x250 + ((rdA [] p110 x251).length : Int))) (IntKind.i64.wrap (x251 + 1)) p110)) else none) else (slices_Concat_int64_int64_j0 k x250 p110)
def slices_Concat_int64_int64_j0 : Nat → Int → (List (List Int)) → Option (List Int)
  | 0, _, _ => none
  | k + 1, x215, p110 => (slices_Grow_int64_int64 x215).bind fun b8 => (slices_Concat_int64_int64_l0 k b8 0 p110)
def slices_Concat_int64_int64_l0 : Nat → (List Int) → Int → (List (List Int)) → Option (List Int)
  | 0, _, _, _ => none
  | k + 1, x228, x233, p110 => if x233 < (p110.length : Int) then (if 0 ≤ x233 then (if x228.length + (rdA [] p110 x233).length ≤ 17592186044416 then (slices_Concat_int64_int64_l0 k (x228 ++ rdA [] p110 x233) (IntKind.i64.wrap (x233 + 1)) p110) else none) else none) else (some x228)
end
def slices_Concat_int64_int64 (k : Nat) (p110 : List (List Int)) : Option (List Int) := slices_Concat_int64_int64_l1 k 0 0 p110
set_option maxHeartbeats 4000000 in
set_option maxRecDepth 100000 in
theorem slices_Concat_int64_int64.calls {k : Nat} {p110 : List (List Int)} {r : (List Int)} {I0 : Imm} {A111 : Option Addr} {c112 : Nat} (H : slices_Concat_int64_int64 k p110 = some r) (hr113 : Rd (Kd.slice (Kd.int .i64)) I0 A111 c112 p110) :
    Meets Try.prog 49 ([.slice A111 p110.length c112] : List Value).toArray I0 [] (fun v J M => ∃ (A_1 : Option Addr) (c_2 : Nat) (s_3 : Seg), v = .slice A_1 r.length c_2 ∧ M = [s_3] ∧ Own (Kd.int .i64) 2 J A_1 c_2 r s_3) := by
  have hle := ImmLe.refl I0
  unfold slices_Concat_int64_int64 at H
  refine fn_intro (fn := Try.f49) 36 Try.func49 rfl rfl rfl (fun E Fs => ?_)
  refine at_seq ?_
  refine at_reg [] [0] (L2 := [(0, .slice A111 p110.length c112)]) (obs := []) (by kernel_rfl) ?_ ?_
  · intro w hs; exact trivial
  refine at_thn ?_
  refine at_seq ?_
  refine at_reg [] [0, 3] (L2 := [(0, .slice A111 p110.length c112), (3, .int .i64 0)]) (obs := []) (by kernel_rfl) ?_ ?_
  · intro w hs; exact trivial
  refine at_thn ?_
  refine at_join (fun L I Ms => ∃ (k216 : Nat), ∃ (x215 : Int), L = [(0, .slice A111 p110.length c112), (3, .int .i64 x215)] ∧ Ms = ([] ++ Fs) ∧ slices_Concat_int64_int64_j0 k216 x215 p110 = some r ∧ ImmLe I0 I ∧ k216 ≤ k ∧ Rd (Kd.slice (Kd.int .i64)) I A111 c112 p110) ?_ ?_
  · clear H hle hr113
    intro L I Ms h_; obtain ⟨k216, x215, hL_, hM_, H, hle, hk217, hr113⟩ := h_; rw [hL_, hM_]; clear hL_ hM_ L Ms
    rcases k216 with _ | k216
    · exact (no_none H).elim
    rw [slices_Concat_int64_int64_j0] at H
    refine at_seq ?_
    refine at_ops [0, 1, 2] rfl ?_
    refine at_seg [0] [1, 2] rfl [] [0, 23] (L2 := [(0, .slice A111 p110.length c112), (23, .int .i64 x215)]) (obs := []) (by kernel_rfl) ?_ ?_
    · intro w hs; exact trivial
    refine at_eff rfl rfl ?_
    obtain ⟨b8, H218, H⟩ := bind_some H
    have hm_ := slices_Grow_int64_int64.calls (I0 := I) H218
    refine eff_call rfl rfl ok60 rfl rfl (show Meets Try.prog 60 ([.slice none ([] : List Int).length 0, .int .i64 x215] : List Value).toArray _ [] _ from hm_) (Mr := (Fs)) (List.Perm.refl _) (fun v219 J220 M221 hq222 hJ223 => ?_)
    replace hle := hle.trans hJ223
    replace hr113 := hr113.mono hJ223
    obtain ⟨A224, c225, s226, rfl, rfl, ho227⟩ := hq222
    refine at_seg [2] [] rfl [] [0, 6] (L2 := [(0, .slice A111 p110.length c112), (6, .slice A224 b8.length c225)]) (obs := []) (by kernel_rfl) ?_ ?_
    · intro w hs; exact trivial
    refine at_end ?_
    refine at_thn ?_
    refine at_seq ?_
    refine at_seq ?_
    refine at_reg [] [6, 25, 26, 27] (L2 := [(6, .slice A224 b8.length c225), (25, .slice A111 p110.length c112), (26, .int .i64 (p110.length : Int)), (27, .int .i64 0)]) (obs := []) (by kernel_rfl) ?_ ?_
    · intro w hs; exact trivial
    refine at_thn ?_
    refine at_block ?_
    refine at_keep [6, 25, 26, 27] (L2 := [(6, .slice A224 b8.length c225), (25, .slice A111 p110.length c112), (26, .int .i64 (p110.length : Int)), (27, .int .i64 0)]) rfl ?_
    refine at_loop (fun k234 L I Ms => ∃ (x228 : List Int) (A229 : Option Addr) (c230 : Nat) (s231 : Seg) (x233 : Int), L = [(6, .slice A229 x228.length c230), (25, .slice A111 p110.length c112), (26, .int .i64 (p110.length : Int)), (27, .int .i64 x233)] ∧ Ms = (s231 :: Fs) ∧ slices_Concat_int64_int64_l0 k234 x228 x233 p110 = some r ∧ ImmLe I0 I ∧ k234 ≤ k216 ∧ Own (Kd.int .i64) 2 I A229 c230 x228 s231 ∧ Rd (Kd.slice (Kd.int .i64)) I A111 c112 p110) ?_ ?_ k216 ⟨b8, A224, c225, s226, 0, rfl, rfl, H, hle, Nat.le_refl _, ho227, hr113⟩
    · rintro L I Ms ⟨_, _, _, _, _, rfl, rfl, H, _⟩; exact no_none H
    · clear H hle ho227 hr113
      intro k234 ih235 L I Ms h_; obtain ⟨x228, A229, c230, s231, x233, hL_, hM_, H, hle, hk236, ho232, hr113⟩ := h_; rw [hL_, hM_]; clear hL_ hM_ L Ms
      rw [slices_Concat_int64_int64_l0] at H
      refine at_seq ?_
      refine at_reg [] [6, 25, 26, 27, 28] (L2 := [(6, .slice A229 x228.length c230), (25, .slice A111 p110.length c112), (26, .int .i64 (p110.length : Int)), (27, .int .i64 x233), (28, .bool (decide (x233 < (p110.length : Int))))]) (obs := []) (by kernel_rfl) ?_ ?_
      · intro w hs; exact trivial
      refine at_thn ?_
      refine at_seq ?_
      by_cases h237 : x233 < (p110.length : Int)
      · rw [if_pos h237] at H
        refine at_cond_t rfl (decide_eq_true h237) ?_
        refine at_skip ?_
        refine at_thn ?_
        refine at_seq ?_
        refine at_block ?_
        refine at_seq ?_
        obtain ⟨h238, H⟩ := ite_some H
        obtain ⟨cs243, hz244, hc239⟩ := hr113.elem [] x233 h238 h237
        obtain ⟨A240, c241, rfl, hr242⟩ := hz244
        refine at_reg [(1, .slice A240 (rdA [] p110 x233).length c241)] [6, 8, 25, 26, 27] (L2 := [(6, .slice A229 x228.length c230), (8, .slice A240 (rdA [] p110 x233).length c241), (25, .slice A111 p110.length c112), (26, .int .i64 (p110.length : Int)), (27, .int .i64 x233)]) (obs := [fun _ => A111.isSome = true ∧ 0 ≤ x233 ∧ x233 < ((p110.length : Nat) : Int), fun w => w.cell? ((A111.getD ad0).add (x233.toNat * 1)) = some (.slice A240 (rdA [] p110 x233).length c241)]) (by kernel_rfl) ?_ ?_
        · intro w hs; exact ⟨⟨hr113.ne x233 h238 h237, h238, h237⟩, cell0 (hc239 0 _ rfl hs)⟩
        refine at_thn ?_
        refine at_ops [0, 1, 2, 3] rfl ?_
        refine at_seg [0, 1] [2, 3] rfl [] [6, 25, 26, 27, 31, 32] (L2 := [(6, .slice A229 x228.length c230), (25, .slice A111 p110.length c112), (26, .int .i64 (p110.length : Int)), (27, .int .i64 x233), (31, .slice A229 x228.length c230), (32, .slice A240 (rdA [] p110 x233).length c241)]) (obs := []) (by kernel_rfl) ?_ ?_
        · intro w hs; exact trivial
        refine at_eff rfl rfl ?_
        obtain ⟨h245, H⟩ := ite_some H
        obtain ⟨i_, hi_, hz_, hs_, hb_⟩ := info2
        refine eff_append (K := (Kd.int .i64)) (xs := x228) (ys := rdA [] p110 x233) 0 rfl rfl rfl rfl rfl und25 und25 hi_ hz_ hs_ rfl rfl rfl ho232 rfl (fun w hs => hr242.rowAt hs) (by rw [hb_]; omega) (by omega) (fun A246 c247 s248 ho249 => ?_)
        refine at_seg [3] [] rfl [] [6, 25, 26, 27] (L2 := [(6, .slice A246 (x228 ++ rdA [] p110 x233).length c247), (25, .slice A111 p110.length c112), (26, .int .i64 (p110.length : Int)), (27, .int .i64 x233)]) (obs := []) (by kernel_rfl) ?_ ?_
        · intro w hs; exact trivial
        refine at_end ?_
        refine at_in_norm ?_
        refine at_thn ?_
        refine at_reg [] [6, 25, 26, 27] (L2 := [(6, .slice A246 (x228 ++ rdA [] p110 x233).length c247), (25, .slice A111 p110.length c112), (26, .int .i64 (p110.length : Int)), (27, .int .i64 (IntKind.i64.wrap (x233 + 1)))]) (obs := []) (by kernel_rfl) ?_ ?_
        · intro w hs; exact trivial
        refine at_thn ?_
        refine at_keep [6, 25, 26, 27] (L2 := [(6, .slice A246 (x228 ++ rdA [] p110 x233).length c247), (25, .slice A111 p110.length c112), (26, .int .i64 (p110.length : Int)), (27, .int .i64 (IntKind.i64.wrap (x233 + 1)))]) rfl ?_
        exact ih235 _ (by omega) _ _ _ ⟨(x228 ++ rdA [] p110 x233), A246, c247, s248, IntKind.i64.wrap (x233 + 1), rfl, rfl, H, hle, by omega, ho249, hr113⟩
      · rw [if_neg h237] at H
        refine at_cond_f rfl (decide_eq_false h237) ?_
        refine at_exit ?_
        refine at_then_exit ?_
        refine at_then_exit ?_
        refine at_in_hit ?_
        refine at_thn ?_
        refine at_seq ?_
        refine at_reg [] [2] (L2 := [(2, .slice A229 x228.length c230)]) (obs := []) (by kernel_rfl) ?_ ?_
        · intro w hs; exact trivial
        refine at_thn ?_
        refine at_ret ?_
        obtain rfl := Option.some.inj H
        refine at_done (vs := [.slice A229 x228.length c230]) (obs := []) (.inl rfl) [.tmp 2] [] rfl (by kernel_rfl) (fun w hs => trivial) (fun w hs => ⟨_, _, [s231], rfl, ⟨A229, c230, s231, rfl, rfl, ho232⟩, hle, hs⟩)
  · intro Jn114
    refine at_seq ?_
    refine at_reg [] [0, 3, 9, 10, 11] (L2 := [(0, .slice A111 p110.length c112), (3, .int .i64 0), (9, .slice A111 p110.length c112), (10, .int .i64 (p110.length : Int)), (11, .int .i64 0)]) (obs := []) (by kernel_rfl) ?_ ?_
    · intro w hs; exact trivial
    refine at_thn ?_
    refine at_block ?_
    refine at_keep [0, 3, 9, 10, 11] (L2 := [(0, .slice A111 p110.length c112), (3, .int .i64 0), (9, .slice A111 p110.length c112), (10, .int .i64 (p110.length : Int)), (11, .int .i64 0)]) rfl ?_
    refine at_loop (fun k252 L I Ms => ∃ (x250 : Int) (x251 : Int), L = [(0, .slice A111 p110.length c112), (3, .int .i64 x250), (9, .slice A111 p110.length c112), (10, .int .i64 (p110.length : Int)), (11, .int .i64 x251)] ∧ Ms = ([] ++ Fs) ∧ slices_Concat_int64_int64_l1 k252 x250 x251 p110 = some r ∧ ImmLe I0 I ∧ k252 ≤ k ∧ Rd (Kd.slice (Kd.int .i64)) I A111 c112 p110) ?_ ?_ k ⟨0, 0, rfl, rfl, H, hle, Nat.le_refl _, hr113⟩
    · rintro L I Ms ⟨_, _, rfl, rfl, H, _⟩; exact no_none H
    · clear H hle hr113
      intro k252 ih253 L I Ms h_; obtain ⟨x250, x251, hL_, hM_, H, hle, hk254, hr113⟩ := h_; rw [hL_, hM_]; clear hL_ hM_ L Ms
      rw [slices_Concat_int64_int64_l1] at H
      refine at_seq ?_
      refine at_reg [] [0, 3, 9, 10, 11, 12] (L2 := [(0, .slice A111 p110.length c112), (3, .int .i64 x250), (9, .slice A111 p110.length c112), (10, .int .i64 (p110.length : Int)), (11, .int .i64 x251), (12, .bool (decide (x251 < (p110.length : Int))))]) (obs := []) (by kernel_rfl) ?_ ?_
      · intro w hs; exact trivial
      refine at_thn ?_
      refine at_seq ?_
      by_cases h255 : x251 < (p110.length : Int)
      · rw [if_pos h255] at H
        refine at_cond_t rfl (decide_eq_true h255) ?_
        refine at_skip ?_
        refine at_thn ?_
        refine at_seq ?_
        refine at_block ?_
        refine at_seq ?_
        obtain ⟨h256, H⟩ := ite_some H
        obtain ⟨cs261, hz262, hc257⟩ := hr113.elem [] x251 h256 h255
        obtain ⟨A258, c259, rfl, hr260⟩ := hz262
        refine at_reg [(1, .slice A258 (rdA [] p110 x251).length c259)] [0, 3, 5, 9, 10, 11] (L2 := [(0, .slice A111 p110.length c112), (3, .int .i64 x250), (5, .slice A258 (rdA [] p110 x251).length c259), (9, .slice A111 p110.length c112), (10, .int .i64 (p110.length : Int)), (11, .int .i64 x251)]) (obs := [fun _ => A111.isSome = true ∧ 0 ≤ x251 ∧ x251 < ((p110.length : Nat) : Int), fun w => w.cell? ((A111.getD ad0).add (x251.toNat * 1)) = some (.slice A258 (rdA [] p110 x251).length c259)]) (by kernel_rfl) ?_ ?_
        · intro w hs; exact ⟨⟨hr113.ne x251 h256 h255, h256, h255⟩, cell0 (hc257 0 _ rfl hs)⟩
        refine at_thn ?_
        refine at_seq ?_
        refine at_reg [] [0, 3, 9, 10, 11] (L2 := [(0, .slice A111 p110.length c112), (3, .int .i64 (IntKind.i64.wrap (x250 + ((rdA [] p110 x251).length : Int)))), (9, .slice A111 p110.length c112), (10, .int .i64 (p110.length : Int)), (11, .int .i64 x251)]) (obs := []) (by kernel_rfl) ?_ ?_
        · intro w hs; exact trivial
        refine at_thn ?_
        refine at_seq ?_
        refine at_reg [] [0, 3, 9, 10, 11, 20] (L2 := [(0, .slice A111 p110.length c112), (3, .int .i64 (IntKind.i64.wrap (x250 + ((rdA [] p110 x251).length : Int)))), (9, .slice A111 p110.length c112), (10, .int .i64 (p110.length : Int)), (11, .int .i64 x251), (20, .bool (decide ((IntKind.i64.wrap (x250 + ((rdA [] p110 x251).length : Int))) < 0)))]) (obs := []) (by kernel_rfl) ?_ ?_
        · intro w hs; exact trivial
        refine at_thn ?_
        by_cases h263 : (IntKind.i64.wrap (x250 + ((rdA [] p110 x251).length : Int))) < 0
        · rw [if_pos h263] at H
          refine at_cond_t rfl (decide_eq_true h263) ?_
          exact (no_none H).elim
        · rw [if_neg h263] at H
          refine at_cond_f rfl (decide_eq_false h263) ?_
          refine at_skip ?_
          refine at_in_norm ?_
          refine at_thn ?_
          refine at_reg [] [0, 3, 9, 10, 11] (L2 := [(0, .slice A111 p110.length c112), (3, .int .i64 (IntKind.i64.wrap (x250 + ((rdA [] p110 x251).length : Int)))), (9, .slice A111 p110.length c112), (10, .int .i64 (p110.length : Int)), (11, .int .i64 (IntKind.i64.wrap (x251 + 1)))]) (obs := []) (by kernel_rfl) ?_ ?_
          · intro w hs; exact trivial
          refine at_thn ?_
          refine at_keep [0, 3, 9, 10, 11] (L2 := [(0, .slice A111 p110.length c112), (3, .int .i64 (IntKind.i64.wrap (x250 + ((rdA [] p110 x251).length : Int)))), (9, .slice A111 p110.length c112), (10, .int .i64 (p110.length : Int)), (11, .int .i64 (IntKind.i64.wrap (x251 + 1)))]) rfl ?_
          exact ih253 _ (by omega) _ _ _ ⟨IntKind.i64.wrap (x250 + ((rdA [] p110 x251).length : Int)), IntKind.i64.wrap (x251 + 1), rfl, rfl, H, hle, by omega, hr113⟩
      · rw [if_neg h255] at H
        refine at_cond_f rfl (decide_eq_false h255) ?_
        refine at_exit ?_
        refine at_then_exit ?_
        refine at_then_exit ?_
        refine at_in_hit ?_
        refine at_thn ?_
        refine at_keep [0, 3] (L2 := [(0, .slice A111 p110.length c112), (3, .int .i64 x250)]) rfl ?_
        exact Jn114 _ _ _ ⟨_, x250, rfl, rfl, H, hle, by omega, hr113⟩
end Go.Proofs.Ytabdhegmepaeiaa
