import Derived.Test.YtocfakbgefdgkaaG7
namespace Go.Proofs.Ytocfakbgefdgkaa
open Go Eng
set_option linter.unusedVariables false
set_option linter.unusedSimpArgs false
/-! ### slices.Insert[[][]int64,[]int64]: function 78 -/
def slices_Insert_int64_int64 (s : List (List Int)) (i : Int) (v : List (List Int)) : Option (List (List Int)) := if s.length + v.length ≤ 5864062014805 then (if 0 ≤ i then (if i ≤ (s.length : Int) then some (s.take i.toNat ++ v ++ s.drop i.toNat) else none) else none) else none
set_option maxHeartbeats 4000000 in
set_option maxRecDepth 100000 in
theorem slices_Insert_int64_int64.calls {s : List (List Int)} {i : Int} {v r : List (List Int)} {I0 : Imm} {A A2 : Option Addr} {c c2 : Nat} {S1 S2 : Seg} (H : slices_Insert_int64_int64 s i v = some r) (ho : Own (Kd.slice (Kd.int .i64)) 23 I0 A c s S1) (ho2 : Own (Kd.slice (Kd.int .i64)) 23 I0 A2 c2 v S2) :
    Meets Try.prog 78 ([.slice A s.length c, .int .i64 i, .slice A2 v.length c2] : List Value).toArray I0 [S1, S2] (fun u J M => ∃ (A_1 : Option Addr) (c_2 : Nat) (s_3 : Seg), u = .slice A_1 r.length c_2 ∧ M = [s_3] ∧ Own (Kd.slice (Kd.int .i64)) 23 J A_1 c_2 r s_3) := by
  have hle := ImmLe.refl I0
  unfold slices_Insert_int64_int64 at H
  obtain ⟨hl, H⟩ := ite_some H
  obtain ⟨h0, H⟩ := ite_some H
  obtain ⟨h1, H⟩ := ite_some H
  obtain rfl := Option.some.inj H
  obtain ⟨p, rfl⟩ : ∃ p : Nat, i = p := ⟨i.toNat, by omega⟩
  simp only [Int.toNat_natCast] at *
  have hps : p ≤ s.length := by omega
  have hcp := ho.cap
  have hrl : (s.take p ++ v ++ s.drop p).length = s.length + v.length := by simp only [List.length_append, List.length_take, List.length_drop]; omega
  obtain ⟨i_, hi_, hz_, hs_, hb_⟩ := info23
  refine fn_intro (fn := Try.f78) 95 Try.func78 rfl rfl rfl (fun E Fs => ?_)
  refine at_seq ?_
  refine at_reg [] [0, 1, 2] (L2 := [(0, .slice A s.length c), (1, .int .i64 (p : Int)), (2, .slice A2 v.length c2)]) (obs := []) (by kernel_rfl) ?_ ?_
  · intro w hs; exact trivial
  refine at_thn ?_
  refine at_seq ?_
  refine at_reg [] [0, 1, 2] (L2 := [(0, .slice A s.length c), (1, .int .i64 (p : Int)), (2, .slice A2 v.length c2)]) (obs := [fun _ => 0 ≤ (p : Int) ∧ (p : Int) ≤ ((s.length : Nat) : Int) ∧ ((s.length : Nat) : Int) ≤ ((c : Nat) : Int)]) (by kernel_rfl) ?_ ?_
  · intro w hs; exact ⟨by omega, by omega, by omega⟩
  refine at_thn ?_
  refine at_seq ?_
  refine at_reg [] [0, 1, 2, 7] (L2 := [(0, .slice A s.length c), (1, .int .i64 (p : Int)), (2, .slice A2 v.length c2), (7, .int .i64 (v.length : Int))]) (obs := []) (by kernel_rfl) ?_ ?_
  · intro w hs; exact trivial
  refine at_thn ?_
  refine at_seq ?_
  refine at_seq ?_
  refine at_reg [] [0, 1, 2, 7, 16] (L2 := [(0, .slice A s.length c), (1, .int .i64 (p : Int)), (2, .slice A2 v.length c2), (7, .int .i64 (v.length : Int)), (16, .bool ((v.length : Int) == 0))]) (obs := []) (by kernel_rfl) ?_ ?_
  · intro w hs; exact trivial
  refine at_thn ?_
  by_cases hm0 : (v.length : Int) = 0
  · refine at_cond_t rfl (beq_iff_eq.2 hm0) ?_
    have hv : v = [] := List.eq_nil_of_length_eq_zero (by omega)
    have hr : s.take p ++ v ++ s.drop p = s := by rw [hv]; simp
    refine at_seq ?_
    refine at_reg [(1, .slice A (s.take p ++ v ++ s.drop p).length c)] [6] (L2 := [(6, .slice A (s.take p ++ v ++ s.drop p).length c)]) (obs := [fun _ => (.slice A s.length c : Value) = .slice A (s.take p ++ v ++ s.drop p).length c]) (by kernel_rfl) ?_ ?_
    · intro w hs; exact (by show (_ : Value) = _; rw [hr])
    refine at_thn ?_
    refine at_ret ?_
    refine at_then_ret ?_
    refine at_drop (k := 1) rfl rfl ?_
    rw [hr]
    refine at_done (vs := [.slice A s.length c]) (obs := []) (.inl rfl) [.tmp 6] [] rfl (by kernel_rfl) (fun w hs => trivial) (fun w hs => ⟨_, _, [S1], rfl, ⟨_, _, _, rfl, rfl, ho⟩, hle, hs⟩)
  refine at_cond_f rfl (beq_eq_false_iff_ne.2 hm0) ?_
  refine at_skip ?_
  refine at_thn ?_
  refine at_seq ?_
  refine at_reg [] [0, 1, 2, 7, 8] (L2 := [(0, .slice A s.length c), (1, .int .i64 (p : Int)), (2, .slice A2 v.length c2), (7, .int .i64 (v.length : Int)), (8, .int .i64 (s.length : Int))]) (obs := []) (by kernel_rfl) ?_ ?_
  · intro w hs; exact trivial
  refine at_thn ?_
  refine at_seq ?_
  refine at_seq ?_
  refine at_reg [] [0, 1, 2, 7, 8, 22] (L2 := [(0, .slice A s.length c), (1, .int .i64 (p : Int)), (2, .slice A2 v.length c2), (7, .int .i64 (v.length : Int)), (8, .int .i64 (s.length : Int)), (22, .bool ((p : Int) == (s.length : Int)))]) (obs := []) (by kernel_rfl) ?_ ?_
  · intro w hs; exact trivial
  refine at_thn ?_
  by_cases hpn : (p : Int) = (s.length : Int)
  · refine at_cond_t rfl (beq_iff_eq.2 hpn) ?_
    refine at_seq ?_
    refine at_ops [0, 1, 2, 3] rfl ?_
    refine at_seg [0, 1] [2, 3] rfl [] [23, 24] (L2 := [(23, .slice A s.length c), (24, .slice A2 v.length c2)]) (obs := []) (by kernel_rfl) ?_ ?_
    · intro w hs; exact trivial
    refine at_eff rfl rfl ?_
    have hr : s.take p ++ v ++ s.drop p = s ++ v := by rw [show p = s.length by omega]; simp
    refine eff_append (K := (Kd.slice (Kd.int .i64))) (xs := s) (ys := v) 0 rfl rfl rfl rfl rfl und34 und34 hi_ hz_ hs_ rfl rfl rfl ho rfl (fun w hs => ho2.rowAt (k := 1) hs rfl) (by rw [hb_]; omega) (by omega) (fun A3 c3 s3 ho3 => ?_)
    refine at_seg [3] [] rfl [] [6] (L2 := [(6, .slice A3 (s ++ v).length c3)]) (obs := []) (by kernel_rfl) ?_ ?_
    · intro w hs; exact trivial
    refine at_end ?_
    refine at_thn ?_
    refine at_ret ?_
    refine at_then_ret ?_
    refine at_drop (k := 1) rfl rfl ?_
    rw [hr]
    refine at_done (vs := [.slice A3 (s ++ v).length c3]) (obs := []) (.inl rfl) [.tmp 6] [] rfl (by kernel_rfl) (fun w hs => trivial) (fun w hs => ⟨_, _, [s3], rfl, ⟨_, _, _, rfl, rfl, ho3⟩, hle, hs⟩)
  refine at_cond_f rfl (beq_eq_false_iff_ne.2 hpn) ?_
  refine at_skip ?_
  refine at_thn ?_
  rcases A with _ | a
  · exact absurd (congrArg List.length (ho.nilOf rfl)) (by simp only [List.length_nil]; omega)
  obtain ⟨b, rfl, hsp⟩ := ho.spare
  rcases A2 with _ | a2
  · exact absurd (congrArg List.length (ho2.nilOf rfl)) (by simp only [List.length_nil]; omega)
  refine at_seq ?_
  refine at_seq ?_
  refine at_reg [(2, .int .i64 ((s.length + v.length : Nat) : Int))] [0, 1, 2, 7, 8, 31] (L2 := [(0, .slice (some ⟨b, 0, none⟩) s.length c), (1, .int .i64 (p : Int)), (2, .slice (some a2) v.length c2), (7, .int .i64 (v.length : Int)), (8, .int .i64 (s.length : Int)), (31, .bool (decide (((s.length + v.length : Nat) : Int) > (c : Int))))]) (obs := [fun _ => (.int .i64 (IntKind.i64.wrap ((s.length : Int) + (v.length : Int))) : Value) = .int .i64 ((s.length + v.length : Nat) : Int)]) (by kernel_rfl) ?_ ?_
  · intro w hs; exact wrapN (by omega) (by omega)
  refine at_thn ?_
  by_cases hg : ((s.length + v.length : Nat) : Int) > (c : Int)
  · refine at_cond_t rfl (decide_eq_true hg) ?_
    have htp : (s.take p).length = p := by rw [List.length_take]; omega
    refine at_seq ?_
    refine at_ops [0, 1, 2, 3, 4, 5, 6, 7, 8, 9] rfl ?_
    refine at_seg [0, 1, 2, 3, 4, 5, 6, 7] [8, 9] rfl [(2, .slice (some ⟨b, 0, none⟩) (s.take p).length c), (5, .int .i64 ((s.length + v.length : Nat) : Int)), (7, .int .i64 ((s.length + v.length - p : Nat) : Int))] [0, 1, 2, 7, 8, 34, 39] (L2 := [(0, .slice (some ⟨b, 0, none⟩) s.length c), (1, .int .i64 (p : Int)), (2, .slice (some a2) v.length c2), (7, .int .i64 (v.length : Int)), (8, .int .i64 (s.length : Int)), (34, .slice (some ⟨b, 0, none⟩) (s.take p).length c), (39, .int .i64 ((s.length + v.length - p : Nat) : Int))]) (obs := [fun _ => 0 ≤ (0 : Int) ∧ (0 : Int) ≤ (p : Int) ∧ (p : Int) ≤ ((c : Nat) : Int), fun _ => cutV (some ⟨b, 0, none⟩) c 1 0 p = .slice (some ⟨b, 0, none⟩) (s.take p).length c, fun _ => (.int .i64 (IntKind.i64.wrap ((s.length : Int) + (v.length : Int))) : Value) = .int .i64 ((s.length + v.length : Nat) : Int), fun _ => (.int .i64 (IntKind.i64.wrap (((s.length + v.length : Nat) : Int) - (p : Int))) : Value) = .int .i64 ((s.length + v.length - p : Nat) : Int)]) (by kernel_rfl) ?_ ?_
    · intro w hs; exact ⟨⟨by omega, by omega, by omega⟩, cut_own ho hps, wrapN (by omega) (by omega), wrapN (by omega) (by omega)⟩
    refine at_eff rfl rfl ?_
    refine eff_appendMake (K := (Kd.slice (Kd.int .i64))) (d := []) (xs := s.take p) (m := ((s.length + v.length - p : Nat) : Int)) rfl rfl rfl rfl rfl und34 und3 hi_ hz_ hs_ (fun _ => ⟨none, 0, rfl, Rd.nil _ _⟩) rfl rfl (by omega) (by rw [Int.toNat_natCast]; omega) (fun w hs => (ho.take p hps).rowAt (k := 0) hs rfl) (by rw [hb_, Int.toNat_natCast]; omega) (by rw [Int.toNat_natCast]; omega) (fun b2 c3 s3 ho3 => ?_)
    simp only [Int.toNat_natCast] at ho3 ⊢
    have hgl : (s.take p ++ List.replicate (s.length + v.length - p) ([] : List Int)).length = s.length + v.length := by simp only [List.length_append, List.length_take, List.length_replicate]; omega
    have hc3 := ho3.cap
    rw [hgl] at hc3
    obtain ⟨b2', e2_, hsp3⟩ := ho3.spare
    cases e2_
    refine at_seg [9] [] rfl [(9, .slice (some ⟨b2, 0, none⟩) (s.length + v.length) c3)] [0, 1, 2, 7, 8, 9] (L2 := [(0, .slice (some ⟨b, 0, none⟩) s.length c), (1, .int .i64 (p : Int)), (2, .slice (some a2) v.length c2), (7, .int .i64 (v.length : Int)), (8, .int .i64 (s.length : Int)), (9, .slice (some ⟨b2, 0, none⟩) (s.length + v.length) c3)]) (obs := [fun _ => (.slice (some ⟨b2, 0, none⟩) (s.take p ++ List.replicate (s.length + v.length - p) ([] : List Int)).length c3 : Value) = .slice (some ⟨b2, 0, none⟩) (s.length + v.length) c3]) (by kernel_rfl) ?_ ?_
    · intro w hs; show (_ : Value) = _; rw [hgl]
    refine at_end ?_
    refine at_thn ?_
    refine at_seq ?_
    refine at_ops [0, 1, 2, 3, 4] rfl ?_
    refine at_seg [0, 1, 2, 3] [4] rfl [(2, .slice (some ⟨b2, p * 1, none⟩) (s.length + v.length - p) (c3 - p))] [0, 1, 2, 7, 8, 9, 43, 44] (L2 := [(0, .slice (some ⟨b, 0, none⟩) s.length c), (1, .int .i64 (p : Int)), (2, .slice (some a2) v.length c2), (7, .int .i64 (v.length : Int)), (8, .int .i64 (s.length : Int)), (9, .slice (some ⟨b2, 0, none⟩) (s.length + v.length) c3), (43, .slice (some ⟨b2, p * 1, none⟩) (s.length + v.length - p) (c3 - p)), (44, .slice (some a2) v.length c2)]) (obs := [fun _ => 0 ≤ (p : Int) ∧ (p : Int) ≤ ((s.length + v.length : Nat) : Int) ∧ ((s.length + v.length : Nat) : Int) ≤ ((c3 : Nat) : Int), fun _ => cutV (some ⟨b2, 0, none⟩) c3 1 p (s.length + v.length) = .slice (some ⟨b2, p * 1, none⟩) (s.length + v.length - p) (c3 - p)]) (by kernel_rfl) ?_ ?_
    · intro w hs; exact ⟨⟨by omega, by omega, by omega⟩, cut_at (by omega)⟩
    refine at_eff rfl rfl ?_
    refine eff_copy (K := (Kd.slice (Kd.int .i64))) (zs := v) 0 p rfl rfl rfl rfl rfl und34 hi_ hs_ rfl rfl hsp3 rfl (fun w hs => ho2.rowAt (k := 2) hs rfl) (by omega) (by omega) (fun s4 hsp4 => ?_)
    refine at_keep [0, 1, 2, 7, 8, 9] (L2 := [(0, .slice (some ⟨b, 0, none⟩) s.length c), (1, .int .i64 (p : Int)), (2, .slice (some a2) v.length c2), (7, .int .i64 (v.length : Int)), (8, .int .i64 (s.length : Int)), (9, .slice (some ⟨b2, 0, none⟩) (s.length + v.length) c3)]) rfl ?_
    refine at_end ?_
    refine at_thn ?_
    refine at_seq ?_
    refine at_x hmo (fun w => True) [8] ?_
    have hobs : (Value.int .i64 (IntKind.i64.wrap ((p : Int) + (v.length : Int))) = .int .i64 ((p + v.length : Nat) : Int)) ∧ (0 ≤ ((p + v.length : Nat) : Int) ∧ ((p + v.length : Nat) : Int) ≤ ((s.length + v.length : Nat) : Int) ∧ ((s.length + v.length : Nat) : Int) ≤ ((c3 : Nat) : Int)) ∧ (cutV (some ⟨b2, 0, none⟩) c3 1 (p + v.length) (s.length + v.length) = .slice (some ⟨b2, (p + v.length) * 1, none⟩) (s.length - p) (c3 - (p + v.length))) ∧ (0 ≤ (p : Int) ∧ (p : Int) ≤ ((s.length : Nat) : Int) ∧ ((s.length : Nat) : Int) ≤ ((c : Nat) : Int)) ∧ (cutV (some ⟨b, 0, none⟩) c 1 p s.length = .slice (some ⟨b, p * 1, none⟩) (s.drop p).length (c - p)) := ⟨wrapN (by omega) (by omega), ⟨by omega, by omega, by omega⟩, (by rw [cut_at (by omega), show s.length + v.length - (p + v.length) = s.length - p by omega]), ⟨by omega, by omega, by omega⟩, (by rw [cut_at (by omega), List.length_drop])⟩
    refine at_xseg [0, 1, 2, 3, 4, 5, 6, 7] 1 (#[true, true, true, true, true, true, true, true, false]) rfl (by kernel_rfl) [(3, .int .i64 ((p + v.length : Nat) : Int)), (4, .slice (some ⟨b2, (p + v.length) * 1, none⟩) (s.length - p) (c3 - (p + v.length))), (7, .slice (some ⟨b, p * 1, none⟩) (s.drop p).length (c - p))] [0, 1, 2, 7, 8, 9, 50, 53] (L2 := [(0, .slice (some ⟨b, 0, none⟩) s.length c), (1, .int .i64 (p : Int)), (2, .slice (some a2) v.length c2), (7, .int .i64 (v.length : Int)), (8, .int .i64 (s.length : Int)), (9, .slice (some ⟨b2, 0, none⟩) (s.length + v.length) c3), (50, .slice (some ⟨b2, (p + v.length) * 1, none⟩) (s.length - p) (c3 - (p + v.length))), (53, .slice (some ⟨b, p * 1, none⟩) (s.drop p).length (c - p))]) (obs := [fun _ => (.int .i64 (IntKind.i64.wrap ((p : Int) + (v.length : Int))) : Value) = .int .i64 ((p + v.length : Nat) : Int), fun _ => 0 ≤ ((p + v.length : Nat) : Int) ∧ ((p + v.length : Nat) : Int) ≤ ((s.length + v.length : Nat) : Int) ∧ ((s.length + v.length : Nat) : Int) ≤ ((c3 : Nat) : Int), fun _ => cutV (some ⟨b2, 0, none⟩) c3 1 (p + v.length) (s.length + v.length) = .slice (some ⟨b2, (p + v.length) * 1, none⟩) (s.length - p) (c3 - (p + v.length)), fun _ => 0 ≤ (p : Int) ∧ (p : Int) ≤ ((s.length : Nat) : Int) ∧ ((s.length : Nat) : Int) ≤ ((c : Nat) : Int), fun _ => cutV (some ⟨b, 0, none⟩) c 1 p s.length = .slice (some ⟨b, p * 1, none⟩) (s.drop p).length (c - p)]) (by kernel_rfl) (by kernel_rfl) (by kernel_rfl) (.inr fun w hs => trivial) (fun w hS => hobs) (fun w hs => hobs) ?_
    refine at_x1 0 8 (#[true, true, true, true, true, true, true, true, true]) rfl (by kernel_rfl) (by kernel_rfl) rfl rfl ?_
    refine eff_copy (K := (Kd.slice (Kd.int .i64))) (zs := s.drop p) 0 (p + v.length) rfl rfl rfl rfl rfl und34 hi_ hs_ rfl rfl hsp4 rfl (fun w hs => hsp.rowAt (k := 1) p (s.drop p) (fun j x hx => spare_get2 p j x hx) hs rfl) (by simp only [List.length_drop]; omega) (by simp only [List.length_drop]; omega) (fun s5 hsp5 => ?_)
    refine at_xX (by kernel_rfl) ?_
    refine at_xend (by kernel_rfl) ?_
    refine at_thn ?_
    have hown : Own (Kd.slice (Kd.int .i64)) 23 I0 (some ⟨b2, 0, none⟩) c3 (s.take p ++ v ++ s.drop p) s5 := hsp5.own (lay_ins hps (by simp only [List.length_append, List.length_map, List.length_replicate, List.length_take]; omega) (fun j hj => grown_get hps j hj)) (by omega)
    refine at_seq ?_
    refine at_reg [(1, .slice (some ⟨b2, 0, none⟩) (s.take p ++ v ++ s.drop p).length c3)] [6] (L2 := [(6, .slice (some ⟨b2, 0, none⟩) (s.take p ++ v ++ s.drop p).length c3)]) (obs := [fun _ => (.slice (some ⟨b2, 0, none⟩) (s.length + v.length) c3 : Value) = .slice (some ⟨b2, 0, none⟩) (s.take p ++ v ++ s.drop p).length c3]) (by kernel_rfl) ?_ ?_
    · intro w hs; exact (by show (_ : Value) = _; rw [hrl])
    refine at_thn ?_
    refine at_ret ?_
    refine at_then_ret ?_
    refine at_drop (k := 2) rfl rfl ?_
    refine at_drop (k := 1) rfl rfl ?_
    refine at_done (vs := [.slice (some ⟨b2, 0, none⟩) (s.take p ++ v ++ s.drop p).length c3]) (obs := []) (.inl rfl) [.tmp 6] [] rfl (by kernel_rfl) (fun w hs => trivial) (fun w hs => ⟨_, _, [s5], rfl, ⟨_, _, _, rfl, rfl, hown⟩, hle, hs⟩)
  refine at_cond_f rfl (decide_eq_false hg) ?_
  refine at_skip ?_
  refine at_thn ?_
  refine at_seq ?_
  refine at_reg [(3, .int .i64 ((s.length + v.length : Nat) : Int)), (4, .slice (some ⟨b, 0, none⟩) (s.length + v.length) c)] [0, 1, 2, 7, 8] (L2 := [(0, .slice (some ⟨b, 0, none⟩) (s.length + v.length) c), (1, .int .i64 (p : Int)), (2, .slice (some a2) v.length c2), (7, .int .i64 (v.length : Int)), (8, .int .i64 (s.length : Int))]) (obs := [fun _ => (.int .i64 (IntKind.i64.wrap ((s.length : Int) + (v.length : Int))) : Value) = .int .i64 ((s.length + v.length : Nat) : Int), fun _ => 0 ≤ (0 : Int) ∧ (0 : Int) ≤ ((s.length + v.length : Nat) : Int) ∧ ((s.length + v.length : Nat) : Int) ≤ ((c : Nat) : Int), fun _ => cutV (some ⟨b, 0, none⟩) c 1 0 (s.length + v.length) = .slice (some ⟨b, 0, none⟩) (s.length + v.length) c]) (by kernel_rfl) ?_ ?_
  · intro w hs; exact ⟨wrapN (by omega) (by omega), ⟨by omega, by omega, by omega⟩, cut_zero⟩
  refine at_thn ?_
  refine at_seq ?_
  refine at_seq ?_
  refine at_ops [0, 1, 2, 3, 4, 5, 6, 7] rfl ?_
  refine at_seg [0, 1, 2, 3, 4, 5] [6, 7] rfl [(4, .int .i64 ((p + v.length : Nat) : Int)), (5, .slice (some ⟨b, (p + v.length) * 1, none⟩) (s.length - p) (c - (p + v.length)))] [0, 1, 2, 7, 8, 61, 66] (L2 := [(0, .slice (some ⟨b, 0, none⟩) (s.length + v.length) c), (1, .int .i64 (p : Int)), (2, .slice (some a2) v.length c2), (7, .int .i64 (v.length : Int)), (8, .int .i64 (s.length : Int)), (61, .slice (some a2) v.length c2), (66, .slice (some ⟨b, (p + v.length) * 1, none⟩) (s.length - p) (c - (p + v.length)))]) (obs := [fun _ => (.int .i64 (IntKind.i64.wrap ((p : Int) + (v.length : Int))) : Value) = .int .i64 ((p + v.length : Nat) : Int), fun _ => 0 ≤ ((p + v.length : Nat) : Int) ∧ ((p + v.length : Nat) : Int) ≤ ((s.length + v.length : Nat) : Int) ∧ ((s.length + v.length : Nat) : Int) ≤ ((c : Nat) : Int), fun _ => cutV (some ⟨b, 0, none⟩) c 1 (p + v.length) (s.length + v.length) = .slice (some ⟨b, (p + v.length) * 1, none⟩) (s.length - p) (c - (p + v.length))]) (by kernel_rfl) ?_ ?_
  · intro w hs; exact ⟨wrapN (by omega) (by omega), ⟨by omega, by omega, by omega⟩, (by show (_ : Value) = _; rw [cut_at (by omega), show s.length + v.length - (p + v.length) = s.length - p by omega])⟩
  refine at_eff rfl rfl ?_
  refine eff_overlapsOwn (K := (Kd.slice (Kd.int .i64))) (fn := Try.f91) (tS := 34) (tR := 4) 1 0 rfl rfl Try.func91 (by kernel_rfl) (by kernel_rfl) (by kernel_rfl) (by kernel_rfl) rfl und34 hi_ rfl ho2 hsp rfl rfl (by decide) (by omega) (by decide) ?_
  refine at_seg [7] [] rfl [] [0, 1, 2, 7, 8, 68] (L2 := [(0, .slice (some ⟨b, 0, none⟩) (s.length + v.length) c), (1, .int .i64 (p : Int)), (2, .slice (some a2) v.length c2), (7, .int .i64 (v.length : Int)), (8, .int .i64 (s.length : Int)), (68, .bool (!false))]) (obs := []) (by kernel_rfl) ?_ ?_
  · intro w hs; exact trivial
  refine at_end ?_
  refine at_thn ?_
  refine at_cond_t rfl rfl ?_
  refine at_seq ?_
  refine at_x hmo (fun w => True) [8] ?_
  have hobs : (Value.int .i64 (IntKind.i64.wrap ((p : Int) + (v.length : Int))) = .int .i64 ((p + v.length : Nat) : Int)) ∧ (0 ≤ ((p + v.length : Nat) : Int) ∧ ((p + v.length : Nat) : Int) ≤ ((s.length + v.length : Nat) : Int) ∧ ((s.length + v.length : Nat) : Int) ≤ ((c : Nat) : Int)) ∧ (cutV (some ⟨b, 0, none⟩) c 1 (p + v.length) (s.length + v.length) = .slice (some ⟨b, (p + v.length) * 1, none⟩) (s.length - p) (c - (p + v.length))) ∧ (0 ≤ (p : Int) ∧ (p : Int) ≤ ((s.length + v.length : Nat) : Int) ∧ ((s.length + v.length : Nat) : Int) ≤ ((c : Nat) : Int)) ∧ (cutV (some ⟨b, 0, none⟩) c 1 p (s.length + v.length) = .slice (some ⟨b, p * 1, none⟩) (s.length + v.length - p) (c - p)) := ⟨wrapN (by omega) (by omega), ⟨by omega, by omega, by omega⟩, (by rw [cut_at (by omega), show s.length + v.length - (p + v.length) = s.length - p by omega]), ⟨by omega, by omega, by omega⟩, cut_at (by omega)⟩
  refine at_xseg [0, 1, 2, 3, 4, 5, 6, 7] 1 (#[true, true, true, true, true, true, true, true, false]) rfl (by kernel_rfl) [(3, .int .i64 ((p + v.length : Nat) : Int)), (4, .slice (some ⟨b, (p + v.length) * 1, none⟩) (s.length - p) (c - (p + v.length))), (7, .slice (some ⟨b, p * 1, none⟩) (s.length + v.length - p) (c - p))] [0, 1, 2, 7, 8, 73, 76] (L2 := [(0, .slice (some ⟨b, 0, none⟩) (s.length + v.length) c), (1, .int .i64 (p : Int)), (2, .slice (some a2) v.length c2), (7, .int .i64 (v.length : Int)), (8, .int .i64 (s.length : Int)), (73, .slice (some ⟨b, (p + v.length) * 1, none⟩) (s.length - p) (c - (p + v.length))), (76, .slice (some ⟨b, p * 1, none⟩) (s.length + v.length - p) (c - p))]) (obs := [fun _ => (.int .i64 (IntKind.i64.wrap ((p : Int) + (v.length : Int))) : Value) = .int .i64 ((p + v.length : Nat) : Int), fun _ => 0 ≤ ((p + v.length : Nat) : Int) ∧ ((p + v.length : Nat) : Int) ≤ ((s.length + v.length : Nat) : Int) ∧ ((s.length + v.length : Nat) : Int) ≤ ((c : Nat) : Int), fun _ => cutV (some ⟨b, 0, none⟩) c 1 (p + v.length) (s.length + v.length) = .slice (some ⟨b, (p + v.length) * 1, none⟩) (s.length - p) (c - (p + v.length)), fun _ => 0 ≤ (p : Int) ∧ (p : Int) ≤ ((s.length + v.length : Nat) : Int) ∧ ((s.length + v.length : Nat) : Int) ≤ ((c : Nat) : Int), fun _ => cutV (some ⟨b, 0, none⟩) c 1 p (s.length + v.length) = .slice (some ⟨b, p * 1, none⟩) (s.length + v.length - p) (c - p)]) (by kernel_rfl) (by kernel_rfl) (by kernel_rfl) (.inr fun w hs => trivial) (fun w hS => hobs) (fun w hs => hobs) ?_
  refine at_x1 0 8 (#[true, true, true, true, true, true, true, true, true]) rfl (by kernel_rfl) (by kernel_rfl) rfl rfl ?_
  refine eff_copyPart (K := (Kd.slice (Kd.int .i64))) (zs := s.drop p) 0 (p + v.length) rfl rfl rfl rfl rfl und34 hi_ hs_ rfl rfl hsp rfl (fun w hs => hsp.rowAt (k := 0) p (s.drop p) (fun j x hx => spare_get2 p j x hx) hs rfl) (by simp only [List.length_drop]; omega) (by simp only [List.length_drop]; omega) (fun s5 hsp5 => ?_)
  refine at_xX (by kernel_rfl) ?_
  refine at_xend (by kernel_rfl) ?_
  refine at_thn ?_
  refine at_keep [0, 1, 2, 7, 8] (L2 := [(0, .slice (some ⟨b, 0, none⟩) (s.length + v.length) c), (1, .int .i64 (p : Int)), (2, .slice (some a2) v.length c2), (7, .int .i64 (v.length : Int)), (8, .int .i64 (s.length : Int))]) rfl ?_
  refine at_seq ?_
  refine at_ops [0, 1, 2, 3, 4] rfl ?_
  refine at_seg [0, 1, 2, 3] [4] rfl [(2, .slice (some ⟨b, p * 1, none⟩) (s.length + v.length - p) (c - p))] [0, 1, 2, 7, 8, 80, 81] (L2 := [(0, .slice (some ⟨b, 0, none⟩) (s.length + v.length) c), (1, .int .i64 (p : Int)), (2, .slice (some a2) v.length c2), (7, .int .i64 (v.length : Int)), (8, .int .i64 (s.length : Int)), (80, .slice (some ⟨b, p * 1, none⟩) (s.length + v.length - p) (c - p)), (81, .slice (some a2) v.length c2)]) (obs := [fun _ => 0 ≤ (p : Int) ∧ (p : Int) ≤ ((s.length + v.length : Nat) : Int) ∧ ((s.length + v.length : Nat) : Int) ≤ ((c : Nat) : Int), fun _ => cutV (some ⟨b, 0, none⟩) c 1 p (s.length + v.length) = .slice (some ⟨b, p * 1, none⟩) (s.length + v.length - p) (c - p)]) (by kernel_rfl) ?_ ?_
  · intro w hs; exact ⟨⟨by omega, by omega, by omega⟩, cut_at (by omega)⟩
  refine at_eff rfl rfl ?_
  refine eff_copy (K := (Kd.slice (Kd.int .i64))) (zs := v) 0 p rfl rfl rfl rfl rfl und34 hi_ hs_ rfl rfl hsp5 rfl (fun w hs => ho2.rowAt (k := 1) hs rfl) (by omega) (by omega) (fun s6 hsp6 => ?_)
  refine at_keep [0] (L2 := [(0, .slice (some ⟨b, 0, none⟩) (s.length + v.length) c)]) rfl ?_
  refine at_end ?_
  refine at_thn ?_
  have hown : Own (Kd.slice (Kd.int .i64)) 23 I0 (some ⟨b, 0, none⟩) c (s.take p ++ v ++ s.drop p) s6 := hsp6.own (lay_ins2 hps (by simp only [List.length_append, List.length_map, List.length_replicate]; omega) (fun j hj => spare_get j (by omega))) (by omega)
  refine at_seq ?_
  refine at_reg [(1, .slice (some ⟨b, 0, none⟩) (s.take p ++ v ++ s.drop p).length c)] [6] (L2 := [(6, .slice (some ⟨b, 0, none⟩) (s.take p ++ v ++ s.drop p).length c)]) (obs := [fun _ => (.slice (some ⟨b, 0, none⟩) (s.length + v.length) c : Value) = .slice (some ⟨b, 0, none⟩) (s.take p ++ v ++ s.drop p).length c]) (by kernel_rfl) ?_ ?_
  · intro w hs; exact (by show (_ : Value) = _; rw [hrl])
  refine at_thn ?_
  refine at_ret ?_
  refine at_then_ret ?_
  refine at_drop (k := 1) rfl rfl ?_
  refine at_done (vs := [.slice (some ⟨b, 0, none⟩) (s.take p ++ v ++ s.drop p).length c]) (obs := []) (.inl rfl) [.tmp 6] [] rfl (by kernel_rfl) (fun w hs => trivial) (fun w hs => ⟨_, _, [s6], rfl, ⟨_, _, _, rfl, rfl, hown⟩, hle, hs⟩)

/-! ### loop.example/g00146/impl.push: function 49 -/
def impl_push (k : Nat) (p89 : T_impl_Ring) (p93 : List Int) : Option T_impl_Ring := (impl_ownLists k p89.Items).bind fun b7 => ((slices_Clone_int64_int64 p93).bind fun b8 => ((slices_Insert_int64_int64 b7 0 ([b8] : List (List Int))).bind fun b9 => (if 0 ≤ (mn (b9.length : Int) 10) then (if (mn (b9.length : Int) 10) ≤ (b9.length : Int) then (some (⟨b9.take (mn (b9.length : Int) 10).toNat, 0⟩ : T_impl_Ring)) else none) else none)))
set_option maxHeartbeats 4000000 in
set_option maxRecDepth 100000 in
theorem impl_push.calls {k : Nat} {p89 : T_impl_Ring} {p93 : List Int} {r : T_impl_Ring} {I0 : Imm} {A90 : Option Addr} {c91 : Nat} {A94 : Option Addr} {c95 : Nat} (H : impl_push k p89 p93 = some r) (hr92 : Rd (Kd.slice (Kd.int .i64)) I0 A90 c91 p89.Items) (hr96 : Rd (Kd.int .i64) I0 A94 c95 p93) :
    Meets Try.prog 49 ([.agg #[.slice A90 p89.Items.length c91, .int .i64 p89.At], .slice A94 p93.length c95] : List Value).toArray I0 [] (fun v J M => ∃ (A_1 : Option Addr) (c_2 : Nat) (s_3 : Seg), v = .agg #[.slice A_1 r.Items.length c_2, .int .i64 r.At] ∧ M = [s_3] ∧ Own (Kd.slice (Kd.int .i64)) 23 J A_1 c_2 r.Items s_3) := by
  have hle := ImmLe.refl I0
  unfold impl_push at H
  refine fn_intro (fn := Try.f49) 19 Try.func49 rfl rfl rfl (fun E Fs => ?_)
  refine at_seq ?_
  refine at_ops [0, 1] rfl ?_
  refine at_eff rfl rfl ?_
  refine eff_box rfl rfl rfl #[.slice A90 p89.Items.length c91, .int .i64 p89.At] rfl (fun g97 => ?_)
  refine at_eff rfl rfl ?_
  obtain ⟨i_, hi_, hz_, _, _⟩ := info38
  refine eff_alloc rfl rfl hi_ hz_ #[.slice none ([] : List (List Int)).length 0, .int .i64 0] rfl (fun g98 => ?_)
  refine at_end ?_
  refine at_thn ?_
  refine at_seq ?_
  refine at_ops [0, 1, 2, 3, 4, 5, 6, 7] rfl ?_
  refine at_seg [0, 1] [2, 3, 4, 5, 6, 7] rfl [(1, .slice A90 p89.Items.length c91)] [1, 4, 7] (L2 := [(1, .slice A94 p93.length c95), (4, .pointer (some ⟨g98, 0, none⟩)), (7, .slice A90 p89.Items.length c91)]) (obs := [fun w => w.cell? ⟨g97, 0, none⟩ = some (.slice A90 p89.Items.length c91)]) (by kernel_rfl) ?_ ?_
  · intro w hs; exact hs.var (k := 1) rfl 0 rfl
  refine at_eff rfl rfl ?_
  obtain ⟨b7, H99, H⟩ := bind_some H
  have hm_ := impl_ownLists.calls (I0 := I0) H99 hr92
  refine eff_call rfl rfl ok77 rfl rfl (show Meets Try.prog 77 ([.slice A90 p89.Items.length c91] : List Value).toArray _ [] _ from hm_) (Mr := ([(g98, .cells #[.slice none ([] : List (List Int)).length 0, .int .i64 0] 38 (0, 0))] :: [(g97, .cells #[.slice A90 p89.Items.length c91, .int .i64 p89.At] 38 (0, 0))] :: Fs)) (List.Perm.refl _) (fun v100 J101 M102 hq103 hJ104 => ?_)
  replace hle := hle.trans hJ104
  replace hr92 := hr92.mono hJ104
  replace hr96 := hr96.mono hJ104
  obtain ⟨A105, c106, s107, rfl, rfl, ho108⟩ := hq103
  refine at_seg [3] [4, 5, 6, 7] rfl [] [4, 8, 9] (L2 := [(4, .pointer (some ⟨g98, 0, none⟩)), (8, .slice A105 b7.length c106), (9, .slice A94 p93.length c95)]) (obs := []) (by kernel_rfl) ?_ ?_
  · intro w hs; exact trivial
  refine at_eff rfl rfl ?_
  obtain ⟨b8, H109, H⟩ := bind_some H
  have hm_ := slices_Clone_int64_int64.calls (I0 := J101) H109 hr96
  refine eff_call rfl rfl ok61 rfl rfl (show Meets Try.prog 61 ([.slice A94 p93.length c95] : List Value).toArray _ [] _ from hm_) (Mr := (s107 :: [(g98, .cells #[.slice none ([] : List (List Int)).length 0, .int .i64 0] 38 (0, 0))] :: [(g97, .cells #[.slice A90 p89.Items.length c91, .int .i64 p89.At] 38 (0, 0))] :: Fs)) (List.Perm.refl _) (fun v110 J111 M112 hq113 hJ114 => ?_)
  replace hle := hle.trans hJ114
  replace ho108 := ho108.mono hJ114
  replace hr92 := hr92.mono hJ114
  replace hr96 := hr96.mono hJ114
  obtain ⟨A115, c116, s117, rfl, rfl, ho118⟩ := hq113
  refine at_eff rfl rfl ?_
  refine at_freeze (k := 0) rfl rfl (fun J119 hJ120 hin121 => ?_)
  replace hle := hle.trans hJ120
  replace ho108 := ho108.mono hJ120
  replace ho118 := ho118.mono hJ120
  replace hr92 := hr92.mono hJ120
  replace hr96 := hr96.mono hJ120
  have hr122 := ho118.rd (ImmLe.refl _) hin121
  refine eff_buildSlice (e := 23) (cells := #[.slice A115 b8.length c116]) ([b8] : List (List Int)).length rfl rfl rfl (by kernel_rfl) (fun g123 => ?_)
  have ho124 := own_lit (K := (Kd.slice (Kd.int .i64))) (e := 23) (I := J119) (xs := ([b8] : List (List Int))) (css := [[.slice A115 b8.length c116]]) (cells := #[.slice A115 b8.length c116]) (b := g123) ⟨⟨A115, c116, rfl, hr122⟩, trivial⟩ rfl
  refine at_eff rfl rfl ?_
  obtain ⟨b9, H125, H⟩ := bind_some H
  have hm_ := slices_Insert_int64_int64.calls (I0 := J119) H125 ho108 ho124
  refine eff_call rfl rfl ok78 rfl rfl (show Meets Try.prog 78 ([.slice A105 b7.length c106, .int .i64 0, .slice (some ⟨g123, 0, none⟩ : Option Addr) ([b8] : List (List Int)).length (([b8] : List (List Int)).length)] : List Value).toArray _ [s107, [(g123, .cells #[.slice A115 b8.length c116] 23 (0, 0))]] _ from hm_) (Mr := ([(g98, .cells #[.slice none ([] : List (List Int)).length 0, .int .i64 0] 38 (0, 0))] :: [(g97, .cells #[.slice A90 p89.Items.length c91, .int .i64 p89.At] 38 (0, 0))] :: Fs)) ((perm_at (k := 1) rfl).trans ((List.Perm.refl _).cons _)) (fun v126 J127 M128 hq129 hJ130 => ?_)
  replace hle := hle.trans hJ130
  replace hr122 := hr122.mono hJ130
  replace hr92 := hr92.mono hJ130
  replace hr96 := hr96.mono hJ130
  obtain ⟨A131, c132, s133, rfl, rfl, ho134⟩ := hq129
  refine at_seg [7] [] rfl [] [4, 5] (L2 := [(4, .pointer (some ⟨g98, 0, none⟩)), (5, .slice A131 b9.length c132)]) (obs := []) (by kernel_rfl) ?_ ?_
  · intro w hs; exact trivial
  refine at_end ?_
  refine at_thn ?_
  refine at_seq ?_
  refine at_ops [0, 1, 2, 3, 4, 5, 6] rfl ?_
  obtain ⟨h135, H⟩ := ite_some H
  obtain ⟨h136, H⟩ := ite_some H
  have ho137 := ho134.take (mn (b9.length : Int) 10).toNat (nat_le h135 h136)
  refine at_seg [0, 1, 2, 3, 4, 5] [6] rfl [(4, .slice A131 (b9.take (mn (b9.length : Int) 10).toNat).length c132)] [4, 18] (L2 := [(4, .pointer (some ⟨g98, 0, none⟩)), (18, .agg #[.slice A131 (b9.take (mn (b9.length : Int) 10).toNat).length c132, .int .i64 0])]) (obs := [fun _ => 0 ≤ (0 : Int) ∧ (0 : Int) ≤ (mn (b9.length : Int) 10) ∧ (mn (b9.length : Int) 10) ≤ ((c132 : Nat) : Int), fun _ => cutV A131 c132 1 0 (mn (b9.length : Int) 10).toNat = .slice A131 (b9.take (mn (b9.length : Int) 10).toNat).length c132]) (by kernel_rfl) ?_ ?_
  · intro w hs; exact ⟨⟨Int.le_refl _, h135, Int.le_trans h136 (Int.ofNat_le.2 ho134.cap)⟩, cut_own ho134 (nat_le h135 h136)⟩
  refine at_eff rfl rfl ?_
  refine eff_store 1 rfl rfl rfl rfl rfl rfl (.inl (Nat.le_refl _)) rfl (Nat.le_of_ble_eq_true (by kernel_rfl)) rfl ?_
  refine at_end ?_
  refine at_thn ?_
  refine at_ret ?_
  obtain rfl := Option.some.inj H
  refine at_drop (k := 2) rfl rfl ?_
  refine at_done (vs := [.agg #[.slice A131 (b9.take (mn (b9.length : Int) 10).toNat).length c132, .int .i64 0]]) (obs := [fun w => CellsAt w ⟨g98, 0, none⟩ [.slice A131 (b9.take (mn (b9.length : Int) 10).toNat).length c132, .int .i64 0] 0]) (.inl rfl) [.cell 4 38] [(4, .agg #[.slice A131 (b9.take (mn (b9.length : Int) 10).toNat).length c132, .int .i64 0])] rfl (by kernel_rfl) (fun w hs => cellsV (k := 1) hs rfl _ 0 (Nat.le_of_ble_eq_true (by kernel_rfl)) rfl) (fun w hs => ⟨_, _, [s133], rfl, ⟨A131, c132, s133, rfl, rfl, ho137⟩, hle, (hs.tail (perm_at (k := 1) rfl))⟩)

/-! ### loop.example/g00146/impl.RingPush: function 16 -/
mutual
def impl_RingPush_j1 : Nat → Bool → T_impl_Ring → (List Int) → Option T_impl_Ring
  | 0, _, _, _ => none
  | k + 1, x310, p78, p82 => if x310 = true then ((impl_ownRing k p78).bind fun b9 => (some b9)) else (impl_RingPush_j0 k p78 p82)
def impl_RingPush_j0 : Nat → T_impl_Ring → (List Int) → Option T_impl_Ring
  | 0, _, _ => none
  | k + 1, p78, p82 => (impl_push k p78 p82).bind fun b7 => (some b7)
end
def impl_RingPush (k : Nat) (p78 : T_impl_Ring) (p82 : List Int) : Option T_impl_Ring := (impl_isMany (p82.length : Int)).bind fun b8 => (if b8 = true then (some (⟨([] : List (List Int)), 0⟩ : T_impl_Ring)) else ((impl_RingRight k p78).bind fun b10 => (if b10 = true then ((impl_isItem k p82).bind fun b11 => (impl_RingPush_j1 k (!b11) p78 p82)) else (impl_RingPush_j1 k true p78 p82))))
set_option maxHeartbeats 4000000 in
set_option maxRecDepth 100000 in
theorem impl_RingPush.calls {k : Nat} {p78 : T_impl_Ring} {p82 : List Int} {r : T_impl_Ring} {I0 : Imm} {A79 : Option Addr} {c80 : Nat} {A83 : Option Addr} {c84 : Nat} (H : impl_RingPush k p78 p82 = some r) (hr81 : Rd (Kd.slice (Kd.int .i64)) I0 A79 c80 p78.Items) (hr85 : Rd (Kd.int .i64) I0 A83 c84 p82) :
    Meets Try.prog 16 ([.agg #[.slice A79 p78.Items.length c80, .int .i64 p78.At], .slice A83 p82.length c84] : List Value).toArray I0 [] (fun v J M => ∃ (A_1 : Option Addr) (c_2 : Nat) (s_3 : Seg), v = .agg #[.slice A_1 r.Items.length c_2, .int .i64 r.At] ∧ M = [s_3] ∧ Own (Kd.slice (Kd.int .i64)) 23 J A_1 c_2 r.Items s_3) := by
  have hle := ImmLe.refl I0
  unfold impl_RingPush at H
  refine fn_intro (fn := Try.f16) 24 Try.func16 rfl rfl rfl (fun E Fs => ?_)
  refine at_seq ?_
  refine at_ops [0, 1] rfl ?_
  refine at_eff rfl rfl ?_
  refine eff_box rfl rfl rfl #[.slice A79 p78.Items.length c80, .int .i64 p78.At] rfl (fun g86 => ?_)
  refine at_eff rfl rfl ?_
  obtain ⟨i_, hi_, hz_, _, _⟩ := info38
  refine eff_alloc rfl rfl hi_ hz_ #[.slice none ([] : List (List Int)).length 0, .int .i64 0] rfl (fun g87 => ?_)
  refine at_end ?_
  refine at_thn ?_
  refine at_join (fun L I Ms => ∃ (k189 : Nat), L = [(1, .slice A83 p82.length c84), (2, .pointer (some ⟨g86, 0, none⟩)), (4, .pointer (some ⟨g87, 0, none⟩))] ∧ Ms = ([(g86, .cells #[.slice A79 p78.Items.length c80, .int .i64 p78.At] 38 (0, 0))] :: [(g87, .cells #[.slice none ([] : List (List Int)).length 0, .int .i64 0] 38 (0, 0))] :: Fs) ∧ impl_RingPush_j0 k189 p78 p82 = some r ∧ ImmLe I0 I ∧ k189 ≤ k ∧ Rd (Kd.slice (Kd.int .i64)) I A79 c80 p78.Items ∧ Rd (Kd.int .i64) I A83 c84 p82) ?_ ?_
  · clear H hle hr81 hr85
    intro L I Ms h_; obtain ⟨k189, hL_, hM_, H, hle, hk190, hr81, hr85⟩ := h_; rw [hL_, hM_]; clear hL_ hM_ L Ms
    rcases k189 with _ | k189
    · exact (no_none H).elim
    rw [impl_RingPush_j0] at H
    refine at_seq ?_
    refine at_ops [0, 1, 2, 3] rfl ?_
    refine at_seg [0, 1] [2, 3] rfl [(0, .agg #[.slice A79 p78.Items.length c80, .int .i64 p78.At])] [4, 21, 22] (L2 := [(4, .pointer (some ⟨g87, 0, none⟩)), (21, .agg #[.slice A79 p78.Items.length c80, .int .i64 p78.At]), (22, .slice A83 p82.length c84)]) (obs := [fun w => CellsAt w ⟨g86, 0, none⟩ [.slice A79 p78.Items.length c80, .int .i64 p78.At] 0]) (by kernel_rfl) ?_ ?_
    · intro w hs; exact cellsV (k := 0) hs rfl _ 0 (Nat.le_of_ble_eq_true (by kernel_rfl)) rfl
    refine at_eff rfl rfl ?_
    obtain ⟨b7, H191, H⟩ := bind_some H
    have hm_ := impl_push.calls (I0 := I) H191 hr81 hr85
    refine eff_call rfl rfl ok49 rfl rfl (show Meets Try.prog 49 ([.agg #[.slice A79 p78.Items.length c80, .int .i64 p78.At], .slice A83 p82.length c84] : List Value).toArray _ [] _ from hm_) (Mr := ([(g86, .cells #[.slice A79 p78.Items.length c80, .int .i64 p78.At] 38 (0, 0))] :: [(g87, .cells #[.slice none ([] : List (List Int)).length 0, .int .i64 0] 38 (0, 0))] :: Fs)) (List.Perm.refl _) (fun v192 J193 M194 hq195 hJ196 => ?_)
    replace hle := hle.trans hJ196
    replace hr81 := hr81.mono hJ196
    replace hr85 := hr85.mono hJ196
    obtain ⟨A197, c198, s199, rfl, rfl, ho200⟩ := hq195
    refine at_eff rfl rfl ?_
    refine eff_store 2 rfl rfl rfl rfl rfl rfl (.inl (Nat.le_refl _)) rfl (Nat.le_of_ble_eq_true (by kernel_rfl)) rfl ?_
    refine at_end ?_
    refine at_thn ?_
    refine at_ret ?_
    obtain rfl := Option.some.inj H
    refine at_drop (k := 1) rfl rfl ?_
    refine at_done (vs := [.agg #[.slice A197 b7.Items.length c198, .int .i64 b7.At]]) (obs := [fun w => CellsAt w ⟨g87, 0, none⟩ [.slice A197 b7.Items.length c198, .int .i64 b7.At] 0]) (.inl rfl) [.cell 4 38] [(4, .agg #[.slice A197 b7.Items.length c198, .int .i64 b7.At])] rfl (by kernel_rfl) (fun w hs => cellsV (k := 1) hs rfl _ 0 (Nat.le_of_ble_eq_true (by kernel_rfl)) rfl) (fun w hs => ⟨_, _, [s199], rfl, ⟨A197, c198, s199, rfl, rfl, ho200⟩, hle, (hs.tail (perm_at (k := 1) rfl))⟩)
  · intro Jn88
    refine at_block ?_
    refine at_seq ?_
    refine at_ops [0, 1, 2, 3] rfl ?_
    refine at_seg [0, 1] [2, 3] rfl [] [1, 2, 4, 7] (L2 := [(1, .slice A83 p82.length c84), (2, .pointer (some ⟨g86, 0, none⟩)), (4, .pointer (some ⟨g87, 0, none⟩)), (7, .int .i64 (p82.length : Int))]) (obs := []) (by kernel_rfl) ?_ ?_
    · intro w hs; exact trivial
    refine at_eff rfl rfl ?_
    obtain ⟨b8, H201, H⟩ := bind_some H
    have hm_ := impl_isMany.calls (I0 := I0) H201
    refine eff_call rfl rfl ok46 rfl rfl (show Meets Try.prog 46 ([.int .i64 (p82.length : Int)] : List Value).toArray _ [] _ from hm_) (Mr := ([(g87, .cells #[.slice none ([] : List (List Int)).length 0, .int .i64 0] 38 (0, 0))] :: [(g86, .cells #[.slice A79 p78.Items.length c80, .int .i64 p78.At] 38 (0, 0))] :: Fs)) (List.Perm.refl _) (fun v202 J203 M204 hq205 hJ206 => ?_)
    replace hle := hle.trans hJ206
    replace hr81 := hr81.mono hJ206
    replace hr85 := hr85.mono hJ206
    obtain ⟨rfl, rfl⟩ := hq205
    refine at_seg [3] [] rfl [] [1, 2, 4, 5] (L2 := [(1, .slice A83 p82.length c84), (2, .pointer (some ⟨g86, 0, none⟩)), (4, .pointer (some ⟨g87, 0, none⟩)), (5, .bool b8)]) (obs := []) (by kernel_rfl) ?_ ?_
    · intro w hs; exact trivial
    refine at_end ?_
    refine at_thn ?_
    by_cases h207 : b8 = true
    · rw [if_pos h207] at H
      refine at_cond_t rfl (h207) ?_
      refine at_seq ?_
      refine at_ops [0, 1] rfl ?_
      refine at_seg [0] [1] rfl [] [4, 9] (L2 := [(4, .pointer (some ⟨g87, 0, none⟩)), (9, .agg #[.slice none ([] : List (List Int)).length 0, .int .i64 0])]) (obs := []) (by kernel_rfl) ?_ ?_
      · intro w hs; exact trivial
      refine at_eff rfl rfl ?_
      refine eff_store 0 rfl rfl rfl rfl rfl rfl (.inl (Nat.le_refl _)) rfl (Nat.le_of_ble_eq_true (by kernel_rfl)) rfl ?_
      refine at_end ?_
      refine at_thn ?_
      refine at_ret ?_
      refine at_in_ret ?_
      refine at_then_ret ?_
      refine at_nilseg ?_
      have ho208 := Own.nil (Kd.slice (Kd.int .i64)) 23 J203
      obtain rfl := Option.some.inj H
      refine at_drop (k := 2) rfl rfl ?_
      refine at_done (vs := [.agg #[.slice none ([] : List (List Int)).length 0, .int .i64 0]]) (obs := [fun w => CellsAt w ⟨g87, 0, none⟩ [.slice none ([] : List (List Int)).length 0, .int .i64 0] 0]) (.inl rfl) [.cell 4 38] [(4, .agg #[.slice none ([] : List (List Int)).length 0, .int .i64 0])] rfl (by kernel_rfl) (fun w hs => cellsV (k := 1) hs rfl _ 0 (Nat.le_of_ble_eq_true (by kernel_rfl)) rfl) (fun w hs => ⟨_, _, [[]], rfl, ⟨none, 0, [], rfl, rfl, ho208⟩, hle, (hs.tail (perm_at (k := 1) rfl))⟩)
    · rw [if_neg h207] at H
      refine at_cond_f rfl (ff_of h207) ?_
      refine at_join (fun L I Ms => ∃ (k311 : Nat), ∃ (x310 : Bool), L = [(1, .slice A83 p82.length c84), (2, .pointer (some ⟨g86, 0, none⟩)), (4, .pointer (some ⟨g87, 0, none⟩)), (10, .bool x310)] ∧ Ms = ([(g86, .cells #[.slice A79 p78.Items.length c80, .int .i64 p78.At] 38 (0, 0))] :: [(g87, .cells #[.slice none ([] : List (List Int)).length 0, .int .i64 0] 38 (0, 0))] :: Fs) ∧ impl_RingPush_j1 k311 x310 p78 p82 = some r ∧ ImmLe I0 I ∧ k311 ≤ k ∧ Rd (Kd.slice (Kd.int .i64)) I A79 c80 p78.Items ∧ Rd (Kd.int .i64) I A83 c84 p82) ?_ ?_
      · clear H hle hr81 hr85
        intro L I Ms h_; obtain ⟨k311, x310, hL_, hM_, H, hle, hk312, hr81, hr85⟩ := h_; rw [hL_, hM_]; clear hL_ hM_ L Ms
        rcases k311 with _ | k311
        · exact (no_none H).elim
        rw [impl_RingPush_j1] at H
        by_cases h313 : x310 = true
        · rw [if_pos h313] at H
          refine at_cond_t rfl (h313) ?_
          refine at_seq ?_
          refine at_ops [0, 1, 2] rfl ?_
          refine at_seg [0] [1, 2] rfl [(0, .agg #[.slice A79 p78.Items.length c80, .int .i64 p78.At])] [4, 19] (L2 := [(4, .pointer (some ⟨g87, 0, none⟩)), (19, .agg #[.slice A79 p78.Items.length c80, .int .i64 p78.At])]) (obs := [fun w => CellsAt w ⟨g86, 0, none⟩ [.slice A79 p78.Items.length c80, .int .i64 p78.At] 0]) (by kernel_rfl) ?_ ?_
          · intro w hs; exact cellsV (k := 0) hs rfl _ 0 (Nat.le_of_ble_eq_true (by kernel_rfl)) rfl
          refine at_eff rfl rfl ?_
          obtain ⟨b9, H314, H⟩ := bind_some H
          have hm_ := impl_ownRing.calls (I0 := I) H314 hr81
          refine eff_call rfl rfl ok48 rfl rfl (show Meets Try.prog 48 ([.agg #[.slice A79 p78.Items.length c80, .int .i64 p78.At]] : List Value).toArray _ [] _ from hm_) (Mr := ([(g86, .cells #[.slice A79 p78.Items.length c80, .int .i64 p78.At] 38 (0, 0))] :: [(g87, .cells #[.slice none ([] : List (List Int)).length 0, .int .i64 0] 38 (0, 0))] :: Fs)) (List.Perm.refl _) (fun v315 J316 M317 hq318 hJ319 => ?_)
          replace hle := hle.trans hJ319
          replace hr81 := hr81.mono hJ319
          obtain ⟨A320, c321, s322, rfl, rfl, ho323⟩ := hq318
          refine at_eff rfl rfl ?_
          refine eff_store 2 rfl rfl rfl rfl rfl rfl (.inl (Nat.le_refl _)) rfl (Nat.le_of_ble_eq_true (by kernel_rfl)) rfl ?_
          refine at_end ?_
          refine at_thn ?_
          refine at_ret ?_
          refine at_in_ret ?_
          refine at_then_ret ?_
          obtain rfl := Option.some.inj H
          refine at_drop (k := 1) rfl rfl ?_
          refine at_done (vs := [.agg #[.slice A320 b9.Items.length c321, .int .i64 b9.At]]) (obs := [fun w => CellsAt w ⟨g87, 0, none⟩ [.slice A320 b9.Items.length c321, .int .i64 b9.At] 0]) (.inl rfl) [.cell 4 38] [(4, .agg #[.slice A320 b9.Items.length c321, .int .i64 b9.At])] rfl (by kernel_rfl) (fun w hs => cellsV (k := 1) hs rfl _ 0 (Nat.le_of_ble_eq_true (by kernel_rfl)) rfl) (fun w hs => ⟨_, _, [s322], rfl, ⟨A320, c321, s322, rfl, rfl, ho323⟩, hle, (hs.tail (perm_at (k := 1) rfl))⟩)
        · rw [if_neg h313] at H
          refine at_cond_f rfl (ff_of h313) ?_
          refine at_skip ?_
          refine at_in_norm ?_
          refine at_thn ?_
          refine at_keep [1, 2, 4] (L2 := [(1, .slice A83 p82.length c84), (2, .pointer (some ⟨g86, 0, none⟩)), (4, .pointer (some ⟨g87, 0, none⟩))]) rfl ?_
          exact Jn88 _ _ _ ⟨_, rfl, rfl, H, hle, by omega, hr81, hr85⟩
      · intro Jn209
        refine at_ops [0, 1, 2, 3, 4, 5, 6, 7, 8] rfl ?_
        refine at_seg [0] [1, 2, 3, 4, 5, 6, 7, 8] rfl [(0, .agg #[.slice A79 p78.Items.length c80, .int .i64 p78.At])] [1, 2, 4, 11] (L2 := [(1, .slice A83 p82.length c84), (2, .pointer (some ⟨g86, 0, none⟩)), (4, .pointer (some ⟨g87, 0, none⟩)), (11, .agg #[.slice A79 p78.Items.length c80, .int .i64 p78.At])]) (obs := [fun w => CellsAt w ⟨g86, 0, none⟩ [.slice A79 p78.Items.length c80, .int .i64 p78.At] 0]) (by kernel_rfl) ?_ ?_
        · intro w hs; exact cellsV (k := 1) hs rfl _ 0 (Nat.le_of_ble_eq_true (by kernel_rfl)) rfl
        refine at_eff rfl rfl ?_
        obtain ⟨b10, H324, H⟩ := bind_some H
        have hm_ := impl_RingRight.calls (I0 := J203) H324 hr81
        refine eff_call rfl rfl ok26 rfl rfl (show Meets Try.prog 26 ([.agg #[.slice A79 p78.Items.length c80, .int .i64 p78.At]] : List Value).toArray _ [] _ from hm_) (Mr := ([(g87, .cells #[.slice none ([] : List (List Int)).length 0, .int .i64 0] 38 (0, 0))] :: [(g86, .cells #[.slice A79 p78.Items.length c80, .int .i64 p78.At] 38 (0, 0))] :: Fs)) (List.Perm.refl _) (fun v325 J326 M327 hq328 hJ329 => ?_)
        replace hle := hle.trans hJ329
        replace hr81 := hr81.mono hJ329
        replace hr85 := hr85.mono hJ329
        obtain ⟨rfl, rfl⟩ := hq328
        by_cases h330 : b10 = true
        · rw [if_pos h330] at H
          refine at_seg [2, 3, 4] [5, 6, 7, 8] rfl [(3, .bool false)] [1, 2, 4, 14, 15] (L2 := [(1, .slice A83 p82.length c84), (2, .pointer (some ⟨g86, 0, none⟩)), (4, .pointer (some ⟨g87, 0, none⟩)), (14, .bool false), (15, .slice A83 p82.length c84)]) (obs := [fun _ => (.bool (!b10) : Value) = .bool false]) (by kernel_rfl) ?_ ?_
          · intro w hs; exact congrArg Value.bool (not_ff (h330))
          refine at_eff rfl rfl ?_
          obtain ⟨b11, H331, H⟩ := bind_some H
          have hm_ := impl_isItem.calls (I0 := J326) H331 hr85
          refine eff_call rfl rfl ok47 rfl rfl (show Meets Try.prog 47 ([.slice A83 p82.length c84] : List Value).toArray _ [] _ from hm_) (Mr := ([(g87, .cells #[.slice none ([] : List (List Int)).length 0, .int .i64 0] 38 (0, 0))] :: [(g86, .cells #[.slice A79 p78.Items.length c80, .int .i64 p78.At] 38 (0, 0))] :: Fs)) (List.Perm.refl _) (fun v332 J333 M334 hq335 hJ336 => ?_)
          replace hle := hle.trans hJ336
          replace hr81 := hr81.mono hJ336
          replace hr85 := hr85.mono hJ336
          obtain ⟨rfl, rfl⟩ := hq335
          refine at_seg [6, 7, 8] [] rfl [] [1, 2, 4, 10] (L2 := [(1, .slice A83 p82.length c84), (2, .pointer (some ⟨g86, 0, none⟩)), (4, .pointer (some ⟨g87, 0, none⟩)), (10, .bool (!b11))]) (obs := []) (by kernel_rfl) ?_ ?_
          · intro w hs; exact trivial
          refine at_end ?_
          refine at_thn ?_
          refine at_perm ((perm_at (k := 1) rfl).trans ((List.Perm.refl _).cons _)) ?_
          refine at_keep [1, 2, 4, 10] (L2 := [(1, .slice A83 p82.length c84), (2, .pointer (some ⟨g86, 0, none⟩)), (4, .pointer (some ⟨g87, 0, none⟩)), (10, .bool (!b11))]) rfl ?_
          exact Jn209 _ _ _ ⟨_, (!b11), rfl, rfl, H, hle, by omega, hr81, hr85⟩
        · rw [if_neg h330] at H
          refine at_seg [2, 3, 4] [5, 6, 7, 8] rfl [(3, .bool true)] [1, 2, 4, 14, 15] (L2 := [(1, .slice A83 p82.length c84), (2, .pointer (some ⟨g86, 0, none⟩)), (4, .pointer (some ⟨g87, 0, none⟩)), (14, .bool true), (15, undef)]) (obs := [fun _ => (.bool (!b10) : Value) = .bool true]) (by kernel_rfl) ?_ ?_
          · intro w hs; exact congrArg Value.bool (not_tt (ff_of h330))
          refine at_seg [5, 6, 7, 8] [] rfl [] [1, 2, 4, 10] (L2 := [(1, .slice A83 p82.length c84), (2, .pointer (some ⟨g86, 0, none⟩)), (4, .pointer (some ⟨g87, 0, none⟩)), (10, .bool true)]) (obs := []) (by kernel_rfl) ?_ ?_
          · intro w hs; exact trivial
          refine at_end ?_
          refine at_thn ?_
          refine at_perm ((perm_at (k := 1) rfl).trans ((List.Perm.refl _).cons _)) ?_
          refine at_keep [1, 2, 4, 10] (L2 := [(1, .slice A83 p82.length c84), (2, .pointer (some ⟨g86, 0, none⟩)), (4, .pointer (some ⟨g87, 0, none⟩)), (10, .bool true)]) rfl ?_
          exact Jn209 _ _ _ ⟨_, true, rfl, rfl, H, hle, by omega, hr81, hr85⟩

/-! ### loop.example/g00146/laws.eqInt64S: function 18 -/
def laws_eqInt64S_l0 : Nat → Int → (List Int) → (List Int) → Option Bool
  | 0, _, _, _ => none
  | k + 1, x140, p131, p135 => if x140 < (p131.length : Int) then (if 0 ≤ x140 then (if x140 < (p135.length : Int) then (if (rdA 0 p131 x140) = (rdA 0 p135 x140) then (laws_eqInt64S_l0 k (IntKind.i64.wrap (x140 + 1)) p131 p135) else (some false)) else none) else none) else (some true)
def laws_eqInt64S (k : Nat) (p131 : List Int) (p135 : List Int) : Option Bool := if (p131.length : Int) = (p135.length : Int) then (laws_eqInt64S_l0 k 0 p131 p135) else (some false)
set_option maxHeartbeats 4000000 in
set_option maxRecDepth 100000 in
theorem laws_eqInt64S.calls {k : Nat} {p131 : List Int} {p135 : List Int} {r : Bool} {I0 : Imm} {A132 : Option Addr} {c133 : Nat} {A136 : Option Addr} {c137 : Nat} (H : laws_eqInt64S k p131 p135 = some r) (hr134 : Rd (Kd.int .i64) I0 A132 c133 p131) (hr138 : Rd (Kd.int .i64) I0 A136 c137 p135) :
    Meets Try.prog 18 ([.slice A132 p131.length c133, .slice A136 p135.length c137] : List Value).toArray I0 [] (fun v J M => v = .bool r ∧ M = []) := by
  have hle := ImmLe.refl I0
  unfold laws_eqInt64S at H
  refine fn_intro (fn := Try.f18) 26 Try.func18 rfl rfl rfl (fun E Fs => ?_)
  refine at_seq ?_
  refine at_reg [] [0, 1] (L2 := [(0, .slice A132 p131.length c133), (1, .slice A136 p135.length c137)]) (obs := []) (by kernel_rfl) ?_ ?_
  · intro w hs; exact trivial
  refine at_thn ?_
  refine at_seq ?_
  refine at_seq ?_
  refine at_reg [] [0, 1, 10] (L2 := [(0, .slice A132 p131.length c133), (1, .slice A136 p135.length c137), (10, .bool ((p131.length : Int) != (p135.length : Int)))]) (obs := []) (by kernel_rfl) ?_ ?_
  · intro w hs; exact trivial
  refine at_thn ?_
  by_cases h139 : (p131.length : Int) = (p135.length : Int)
  · rw [if_pos h139] at H
    refine at_cond_f rfl (bne_eq_false_iff_eq.2 h139) ?_
    refine at_skip ?_
    refine at_thn ?_
    refine at_seq ?_
    refine at_seq ?_
    refine at_reg [] [0, 1, 5] (L2 := [(0, .slice A132 p131.length c133), (1, .slice A136 p135.length c137), (5, .int .i64 0)]) (obs := []) (by kernel_rfl) ?_ ?_
    · intro w hs; exact trivial
    refine at_thn ?_
    refine at_block ?_
    refine at_keep [0, 1, 5] (L2 := [(0, .slice A132 p131.length c133), (1, .slice A136 p135.length c137), (5, .int .i64 0)]) rfl ?_
    refine at_loop (fun k141 L I Ms => ∃ (x140 : Int), L = [(0, .slice A132 p131.length c133), (1, .slice A136 p135.length c137), (5, .int .i64 x140)] ∧ Ms = ([] ++ Fs) ∧ laws_eqInt64S_l0 k141 x140 p131 p135 = some r ∧ ImmLe I0 I ∧ k141 ≤ k ∧ Rd (Kd.int .i64) I A132 c133 p131 ∧ Rd (Kd.int .i64) I A136 c137 p135) ?_ ?_ k ⟨0, rfl, rfl, H, hle, Nat.le_refl _, hr134, hr138⟩
    · rintro L I Ms ⟨_, rfl, rfl, H, _⟩; exact no_none H
    · clear H hle hr134 hr138
      intro k141 ih142 L I Ms h_; obtain ⟨x140, hL_, hM_, H, hle, hk143, hr134, hr138⟩ := h_; rw [hL_, hM_]; clear hL_ hM_ L Ms
      rw [laws_eqInt64S_l0] at H
      refine at_seq ?_
      refine at_seq ?_
      refine at_reg [] [0, 1, 5, 14] (L2 := [(0, .slice A132 p131.length c133), (1, .slice A136 p135.length c137), (5, .int .i64 x140), (14, .bool (decide (x140 < (p131.length : Int))))]) (obs := []) (by kernel_rfl) ?_ ?_
      · intro w hs; exact trivial
      refine at_thn ?_
      by_cases h144 : x140 < (p131.length : Int)
      · rw [if_pos h144] at H
        refine at_cond_t rfl (decide_eq_true h144) ?_
        refine at_skip ?_
        refine at_thn ?_
        refine at_seq ?_
        refine at_block ?_
        refine at_seq ?_
        obtain ⟨h145, H⟩ := ite_some H
        obtain ⟨h146, H⟩ := ite_some H
        refine at_regd hmo [(3, .int .i64 (rdA 0 p131 x140)), (7, .int .i64 (rdA 0 p135 x140))] [0, 1, 5, 25] (by kernel_rfl) (L2 := [(0, .slice A132 p131.length c133), (1, .slice A136 p135.length c137), (5, .int .i64 x140), (25, .bool ((rdA 0 p131 x140) != (rdA 0 p135 x140)))]) (obs := [fun _ => A132.isSome = true ∧ 0 ≤ x140 ∧ x140 < ((p131.length : Nat) : Int), fun w => w.cell? ((A132.getD ad0).add (x140.toNat * 1)) = some (.int .i64 (rdA 0 p131 x140)), fun _ => A136.isSome = true ∧ 0 ≤ x140 ∧ x140 < ((p135.length : Nat) : Int), fun w => w.cell? ((A136.getD ad0).add (x140.toNat * 1)) = some (.int .i64 (rdA 0 p135 x140))]) (by kernel_rfl) ?_ ?_
        · intro w hs; exact ⟨⟨hr134.ne x140 h145 h144, h145, h144⟩, hr134.one 0 x140 h145 h144 hs, ⟨hr138.ne x140 h145 h146, h145, h146⟩, hr138.one 0 x140 h145 h146 hs⟩
        refine at_thn ?_
        by_cases h147 : (rdA 0 p131 x140) = (rdA 0 p135 x140)
        · rw [if_pos h147] at H
          refine at_cond_f rfl (bne_eq_false_iff_eq.2 h147) ?_
          refine at_skip ?_
          refine at_in_norm ?_
          refine at_thn ?_
          refine at_reg [] [0, 1, 5] (L2 := [(0, .slice A132 p131.length c133), (1, .slice A136 p135.length c137), (5, .int .i64 (IntKind.i64.wrap (x140 + 1)))]) (obs := []) (by kernel_rfl) ?_ ?_
          · intro w hs; exact trivial
          refine at_thn ?_
          refine at_keep [0, 1, 5] (L2 := [(0, .slice A132 p131.length c133), (1, .slice A136 p135.length c137), (5, .int .i64 (IntKind.i64.wrap (x140 + 1)))]) rfl ?_
          exact ih142 _ (by omega) _ _ _ ⟨IntKind.i64.wrap (x140 + 1), rfl, rfl, H, hle, by omega, hr134, hr138⟩
        · rw [if_neg h147] at H
          refine at_cond_t rfl (bne_iff_ne.2 h147) ?_
          refine at_seq ?_
          refine at_reg [] [4] (L2 := [(4, .bool false)]) (obs := []) (by kernel_rfl) ?_ ?_
          · intro w hs; exact trivial
          refine at_thn ?_
          refine at_ret ?_
          refine at_in_ret ?_
          refine at_then_ret ?_
          refine at_then_ret ?_
          refine at_in_ret ?_
          refine at_then_ret ?_
          obtain rfl := Option.some.inj H
          refine at_done (vs := [.bool false]) (obs := []) (.inl rfl) [.tmp 4] [] rfl (by kernel_rfl) (fun w hs => trivial) (fun w hs => ⟨_, _, [], rfl, ⟨rfl, rfl⟩, hle, hs⟩)
      · rw [if_neg h144] at H
        refine at_cond_f rfl (decide_eq_false h144) ?_
        refine at_exit ?_
        refine at_then_exit ?_
        refine at_then_exit ?_
        refine at_in_hit ?_
        refine at_thn ?_
        refine at_seq ?_
        refine at_reg [] [4] (L2 := [(4, .bool true)]) (obs := []) (by kernel_rfl) ?_ ?_
        · intro w hs; exact trivial
        refine at_thn ?_
        refine at_ret ?_
        obtain rfl := Option.some.inj H
        refine at_done (vs := [.bool true]) (obs := []) (.inl rfl) [.tmp 4] [] rfl (by kernel_rfl) (fun w hs => trivial) (fun w hs => ⟨_, _, [], rfl, ⟨rfl, rfl⟩, hle, hs⟩)
  · rw [if_neg h139] at H
    refine at_cond_t rfl (bne_iff_ne.2 h139) ?_
    refine at_seq ?_
    refine at_reg [] [4] (L2 := [(4, .bool false)]) (obs := []) (by kernel_rfl) ?_ ?_
    · intro w hs; exact trivial
    refine at_thn ?_
    refine at_ret ?_
    refine at_then_ret ?_
    obtain rfl := Option.some.inj H
    refine at_done (vs := [.bool false]) (obs := []) (.inl rfl) [.tmp 4] [] rfl (by kernel_rfl) (fun w hs => trivial) (fun w hs => ⟨_, _, [], rfl, ⟨rfl, rfl⟩, hle, hs⟩)
end Go.Proofs.Ytocfakbgefdgkaa
