import Derived.Test.YtloojlhlfhmoeaaG6
namespace Go.Proofs.Ytloojlhlfhmoeaa
open Go Eng
set_option linter.unusedVariables false
set_option linter.unusedSimpArgs false
/-! ### slices.Insert[[]loop.example/g00146/impl.Key,loop.example/g00146/impl.Key]: function 20 -/
def impl_Key' (s : List T_impl_Key) (i : Int) (v : List T_impl_Key) : Option (List T_impl_Key) := if s.length + v.length ≤ 3518437208883 then (if 0 ≤ i then (if i ≤ (s.length : Int) then some (s.take i.toNat ++ v ++ s.drop i.toNat) else none) else none) else none
set_option maxHeartbeats 4000000 in
set_option maxRecDepth 100000 in
theorem impl_Key'.calls {s : List T_impl_Key} {i : Int} {v r : List T_impl_Key} {I0 : Imm} {A A2 : Option Addr} {c c2 : Nat} {S1 S2 : Seg} (H : impl_Key' s i v = some r) (ho : Own k_impl_Key 25 I0 A c s S1) (ho2 : Own k_impl_Key 25 I0 A2 c2 v S2) :
    Meets Try.prog 20 ([.slice A s.length c, .int .i64 i, .slice A2 v.length c2] : List Value).toArray I0 [S1, S2] (fun u J M => ∃ (A_1 : Option Addr) (c_2 : Nat) (s_3 : Seg), u = .slice A_1 r.length c_2 ∧ M = [s_3] ∧ Own k_impl_Key 25 J A_1 c_2 r s_3) := by
  have hle := ImmLe.refl I0
  unfold impl_Key' at H
  obtain ⟨hl, H⟩ := ite_some H
  obtain ⟨h0, H⟩ := ite_some H
  obtain ⟨h1, H⟩ := ite_some H
  obtain rfl := Option.some.inj H
  obtain ⟨p, rfl⟩ : ∃ p : Nat, i = p := ⟨i.toNat, by omega⟩
  simp only [Int.toNat_natCast] at *
  have hps : p ≤ s.length := by omega
  have hcp := ho.cap
  have hrl : (s.take p ++ v ++ s.drop p).length = s.length + v.length := by simp only [List.length_append, List.length_take, List.length_drop]; omega
  obtain ⟨i_, hi_, hz_, hs_, hb_⟩ := info25
  refine fn_intro (fn := Try.f20) 95 Try.func20 rfl rfl rfl (fun E Fs => ?_)
  refine at_seq ?_
  refine at_reg [] [0, 1, 2] (L2 := [(0, .slice A s.length c), (1, .int .i64 (p : Int)), (2, .slice A2 v.length c2)]) (obs := []) (by kernel_rfl) ?_ ?_
  · intro w hs; exact trivial
  refine at_thn ?_
  refine at_seq ?_
  refine at_reg [] [0, 1, 2] (L2 := [(0, .slice A s.length c), (1, .int .i64 (p : Int)), (2, .slice A2 v.length c2)]) (obs := [fun _ => 0 ≤ (p : Int) ∧ (p : Int) ≤ ((s.length : Nat) : Int) ∧ ((s.length : Nat) : Int) ≤ ((c : Nat) : Int)]) (by kernel_rfl) ?_ ?_
  · intro w hs; exact ⟨by omega, by omega, by omega⟩
  refine at_thn ?_
  refine at_seq ?_
  refine at_reg [] [0, 1, 2, 7] (L2 := [(0, .slice A s.length c), (1, .int .i64 (p : Int)), (2, .slice A2 v.length c2), (7, .int .i64 (v.length : Int))]) (obs := []) (by kernel_rfl) ?_ ?_
  · intro w hs; exact trivial
  refine at_thn ?_
  refine at_seq ?_
  refine at_seq ?_
  refine at_reg [] [0, 1, 2, 7, 16] (L2 := [(0, .slice A s.length c), (1, .int .i64 (p : Int)), (2, .slice A2 v.length c2), (7, .int .i64 (v.length : Int)), (16, .bool ((v.length : Int) == 0))]) (obs := []) (by kernel_rfl) ?_ ?_
  · intro w hs; exact trivial
  refine at_thn ?_
  by_cases hm0 : (v.length : Int) = 0
  · refine at_cond_t rfl (beq_iff_eq.2 hm0) ?_
    have hv : v = [] := List.eq_nil_of_length_eq_zero (by omega)
    have hr : s.take p ++ v ++ s.drop p = s := by rw [hv]; simp
    refine at_seq ?_
    refine at_reg [(1, .slice A (s.take p ++ v ++ s.drop p).length c)] [6] (L2 := [(6, .slice A (s.take p ++ v ++ s.drop p).length c)]) (obs := [fun _ => (.slice A s.length c : Value) = .slice A (s.take p ++ v ++ s.drop p).length c]) (by kernel_rfl) ?_ ?_
    · intro w hs; exact (by show (_ : Value) = _; rw [hr])
    refine at_thn ?_
    refine at_ret ?_
    refine at_then_ret ?_
    refine at_drop (k := 1) rfl rfl ?_
    rw [hr]
    refine at_done (vs := [.slice A s.length c]) (obs := []) (.inl rfl) [.tmp 6] [] rfl (by kernel_rfl) (fun w hs => trivial) (fun w hs => ⟨_, _, [S1], rfl, ⟨_, _, _, rfl, rfl, ho⟩, hle, hs⟩)
  refine at_cond_f rfl (beq_eq_false_iff_ne.2 hm0) ?_
  refine at_skip ?_
  refine at_thn ?_
  refine at_seq ?_
  refine at_reg [] [0, 1, 2, 7, 8] (L2 := [(0, .slice A s.length c), (1, .int .i64 (p : Int)), (2, .slice A2 v.length c2), (7, .int .i64 (v.length : Int)), (8, .int .i64 (s.length : Int))]) (obs := []) (by kernel_rfl) ?_ ?_
  · intro w hs; exact trivial
  refine at_thn ?_
  refine at_seq ?_
  refine at_seq ?_
  refine at_reg [] [0, 1, 2, 7, 8, 22] (L2 := [(0, .slice A s.length c), (1, .int .i64 (p : Int)), (2, .slice A2 v.length c2), (7, .int .i64 (v.length : Int)), (8, .int .i64 (s.length : Int)), (22, .bool ((p : Int) == (s.length : Int)))]) (obs := []) (by kernel_rfl) ?_ ?_
  · intro w hs; exact trivial
  refine at_thn ?_
  by_cases hpn : (p : Int) = (s.length : Int)
  · refine at_cond_t rfl (beq_iff_eq.2 hpn) ?_
    refine at_seq ?_
    refine at_ops [0, 1, 2, 3] rfl ?_
    refine at_seg [0, 1] [2, 3] rfl [] [23, 24] (L2 := [(23, .slice A s.length c), (24, .slice A2 v.length c2)]) (obs := []) (by kernel_rfl) ?_ ?_
    · intro w hs; exact trivial
    refine at_eff rfl rfl ?_
    have hr : s.take p ++ v ++ s.drop p = s ++ v := by rw [show p = s.length by omega]; simp
    refine eff_append (K := k_impl_Key) (xs := s) (ys := v) 0 rfl rfl rfl rfl rfl und23 und23 hi_ hz_ hs_ rfl rfl rfl ho rfl (fun w hs => ho2.rowAt (k := 1) hs rfl) (by rw [hb_]; omega) (by omega) (fun A3 c3 s3 ho3 => ?_)
    refine at_seg [3] [] rfl [] [6] (L2 := [(6, .slice A3 (s ++ v).length c3)]) (obs := []) (by kernel_rfl) ?_ ?_
    · intro w hs; exact trivial
    refine at_end ?_
    refine at_thn ?_
    refine at_ret ?_
    refine at_then_ret ?_
    refine at_drop (k := 1) rfl rfl ?_
    rw [hr]
    refine at_done (vs := [.slice A3 (s ++ v).length c3]) (obs := []) (.inl rfl) [.tmp 6] [] rfl (by kernel_rfl) (fun w hs => trivial) (fun w hs => ⟨_, _, [s3], rfl, ⟨_, _, _, rfl, rfl, ho3⟩, hle, hs⟩)
  refine at_cond_f rfl (beq_eq_false_iff_ne.2 hpn) ?_
  refine at_skip ?_
  refine at_thn ?_
  rcases A with _ | a
  · exact absurd (congrArg List.length (ho.nilOf rfl)) (by simp only [List.length_nil]; omega)
  obtain ⟨b, rfl, hsp⟩ := ho.spare
  rcases A2 with _ | a2
  · exact absurd (congrArg List.length (ho2.nilOf rfl)) (by simp only [List.length_nil]; omega)
  refine at_seq ?_
  refine at_seq ?_
  refine at_reg [(2, .int .i64 ((s.length + v.length : Nat) : Int))] [0, 1, 2, 7, 8, 31] (L2 := [(0, .slice (some ⟨b, 0, none⟩) s.length c), (1, .int .i64 (p : Int)), (2, .slice (some a2) v.length c2), (7, .int .i64 (v.length : Int)), (8, .int .i64 (s.length : Int)), (31, .bool (decide (((s.length + v.length : Nat) : Int) > (c : Int))))]) (obs := [fun _ => (.int .i64 (IntKind.i64.wrap ((s.length : Int) + (v.length : Int))) : Value) = .int .i64 ((s.length + v.length : Nat) : Int)]) (by kernel_rfl) ?_ ?_
  · intro w hs; exact wrapN (by omega) (by omega)
  refine at_thn ?_
  by_cases hg : ((s.length + v.length : Nat) : Int) > (c : Int)
  · refine at_cond_t rfl (decide_eq_true hg) ?_
    have htp : (s.take p).length = p := by rw [List.length_take]; omega
    refine at_seq ?_
    refine at_ops [0, 1, 2, 3, 4, 5, 6, 7, 8, 9] rfl ?_
    refine at_seg [0, 1, 2, 3, 4, 5, 6, 7] [8, 9] rfl [(2, .slice (some ⟨b, 0, none⟩) (s.take p).length c), (5, .int .i64 ((s.length + v.length : Nat) : Int)), (7, .int .i64 ((s.length + v.length - p : Nat) : Int))] [0, 1, 2, 7, 8, 34, 39] (L2 := [(0, .slice (some ⟨b, 0, none⟩) s.length c), (1, .int .i64 (p : Int)), (2, .slice (some a2) v.length c2), (7, .int .i64 (v.length : Int)), (8, .int .i64 (s.length : Int)), (34, .slice (some ⟨b, 0, none⟩) (s.take p).length c), (39, .int .i64 ((s.length + v.length - p : Nat) : Int))]) (obs := [fun _ => 0 ≤ (0 : Int) ∧ (0 : Int) ≤ (p : Int) ∧ (p : Int) ≤ ((c : Nat) : Int), fun _ => cutV (some ⟨b, 0, none⟩) c 3 0 p = .slice (some ⟨b, 0, none⟩) (s.take p).length c, fun _ => (.int .i64 (IntKind.i64.wrap ((s.length : Int) + (v.length : Int))) : Value) = .int .i64 ((s.length + v.length : Nat) : Int), fun _ => (.int .i64 (IntKind.i64.wrap (((s.length + v.length : Nat) : Int) - (p : Int))) : Value) = .int .i64 ((s.length + v.length - p : Nat) : Int)]) (by kernel_rfl) ?_ ?_
    · intro w hs; exact ⟨⟨by omega, by omega, by omega⟩, cut_own ho hps, wrapN (by omega) (by omega), wrapN (by omega) (by omega)⟩
    refine at_eff rfl rfl ?_
    refine eff_appendMake (K := k_impl_Key) (d := z_impl_Key) (xs := s.take p) (m := ((s.length + v.length - p : Nat) : Int)) rfl rfl rfl rfl rfl und23 und3 hi_ hz_ hs_ (fun _ => rfl) rfl rfl (by omega) (by rw [Int.toNat_natCast]; omega) (fun w hs => (ho.take p hps).rowAt (k := 0) hs rfl) (by rw [hb_, Int.toNat_natCast]; omega) (by rw [Int.toNat_natCast]; omega) (fun b2 c3 s3 ho3 => ?_)
    simp only [Int.toNat_natCast] at ho3 ⊢
    have hgl : (s.take p ++ List.replicate (s.length + v.length - p) (z_impl_Key : T_impl_Key)).length = s.length + v.length := by simp only [List.length_append, List.length_take, List.length_replicate]; omega
    have hc3 := ho3.cap
    rw [hgl] at hc3
    obtain ⟨b2', e2_, hsp3⟩ := ho3.spare
    cases e2_
    refine at_seg [9] [] rfl [(9, .slice (some ⟨b2, 0, none⟩) (s.length + v.length) c3)] [0, 1, 2, 7, 8, 9] (L2 := [(0, .slice (some ⟨b, 0, none⟩) s.length c), (1, .int .i64 (p : Int)), (2, .slice (some a2) v.length c2), (7, .int .i64 (v.length : Int)), (8, .int .i64 (s.length : Int)), (9, .slice (some ⟨b2, 0, none⟩) (s.length + v.length) c3)]) (obs := [fun _ => (.slice (some ⟨b2, 0, none⟩) (s.take p ++ List.replicate (s.length + v.length - p) (z_impl_Key : T_impl_Key)).length c3 : Value) = .slice (some ⟨b2, 0, none⟩) (s.length + v.length) c3]) (by kernel_rfl) ?_ ?_
    · intro w hs; show (_ : Value) = _; rw [hgl]
    refine at_end ?_
    refine at_thn ?_
    refine at_seq ?_
    refine at_ops [0, 1, 2, 3, 4] rfl ?_
    refine at_seg [0, 1, 2, 3] [4] rfl [(2, .slice (some ⟨b2, p * 3, none⟩) (s.length + v.length - p) (c3 - p))] [0, 1, 2, 7, 8, 9, 43, 44] (L2 := [(0, .slice (some ⟨b, 0, none⟩) s.length c), (1, .int .i64 (p : Int)), (2, .slice (some a2) v.length c2), (7, .int .i64 (v.length : Int)), (8, .int .i64 (s.length : Int)), (9, .slice (some ⟨b2, 0, none⟩) (s.length + v.length) c3), (43, .slice (some ⟨b2, p * 3, none⟩) (s.length + v.length - p) (c3 - p)), (44, .slice (some a2) v.length c2)]) (obs := [fun _ => 0 ≤ (p : Int) ∧ (p : Int) ≤ ((s.length + v.length : Nat) : Int) ∧ ((s.length + v.length : Nat) : Int) ≤ ((c3 : Nat) : Int), fun _ => cutV (some ⟨b2, 0, none⟩) c3 3 p (s.length + v.length) = .slice (some ⟨b2, p * 3, none⟩) (s.length + v.length - p) (c3 - p)]) (by kernel_rfl) ?_ ?_
    · intro w hs; exact ⟨⟨by omega, by omega, by omega⟩, cut_at (by omega)⟩
    refine at_eff rfl rfl ?_
    refine eff_copy (K := k_impl_Key) (zs := v) 0 p rfl rfl rfl rfl rfl und23 hi_ hs_ rfl rfl hsp3 rfl (fun w hs => ho2.rowAt (k := 2) hs rfl) (by omega) (by omega) (fun s4 hsp4 => ?_)
    refine at_keep [0, 1, 2, 7, 8, 9] (L2 := [(0, .slice (some ⟨b, 0, none⟩) s.length c), (1, .int .i64 (p : Int)), (2, .slice (some a2) v.length c2), (7, .int .i64 (v.length : Int)), (8, .int .i64 (s.length : Int)), (9, .slice (some ⟨b2, 0, none⟩) (s.length + v.length) c3)]) rfl ?_
    refine at_end ?_
    refine at_thn ?_
    refine at_seq ?_
    refine at_x hmo (fun w => True) [8] ?_
    have hobs : (Value.int .i64 (IntKind.i64.wrap ((p : Int) + (v.length : Int))) = .int .i64 ((p + v.length : Nat) : Int)) ∧ (0 ≤ ((p + v.length : Nat) : Int) ∧ ((p + v.length : Nat) : Int) ≤ ((s.length + v.length : Nat) : Int) ∧ ((s.length + v.length : Nat) : Int) ≤ ((c3 : Nat) : Int)) ∧ (cutV (some ⟨b2, 0, none⟩) c3 3 (p + v.length) (s.length + v.length) = .slice (some ⟨b2, (p + v.length) * 3, none⟩) (s.length - p) (c3 - (p + v.length))) ∧ (0 ≤ (p : Int) ∧ (p : Int) ≤ ((s.length : Nat) : Int) ∧ ((s.length : Nat) : Int) ≤ ((c : Nat) : Int)) ∧ (cutV (some ⟨b, 0, none⟩) c 3 p s.length = .slice (some ⟨b, p * 3, none⟩) (s.drop p).length (c - p)) := ⟨wrapN (by omega) (by omega), ⟨by omega, by omega, by omega⟩, (by rw [cut_at (by omega), show s.length + v.length - (p + v.length) = s.length - p by omega]), ⟨by omega, by omega, by omega⟩, (by rw [cut_at (by omega), List.length_drop])⟩
    refine at_xseg [0, 1, 2, 3, 4, 5, 6, 7] 1 (#[true, true, true, true, true, true, true, true, false]) rfl (by kernel_rfl) [(3, .int .i64 ((p + v.length : Nat) : Int)), (4, .slice (some ⟨b2, (p + v.length) * 3, none⟩) (s.length - p) (c3 - (p + v.length))), (7, .slice (some ⟨b, p * 3, none⟩) (s.drop p).length (c - p))] [0, 1, 2, 7, 8, 9, 50, 53] (L2 := [(0, .slice (some ⟨b, 0, none⟩) s.length c), (1, .int .i64 (p : Int)), (2, .slice (some a2) v.length c2), (7, .int .i64 (v.length : Int)), (8, .int .i64 (s.length : Int)), (9, .slice (some ⟨b2, 0, none⟩) (s.length + v.length) c3), (50, .slice (some ⟨b2, (p + v.length) * 3, none⟩) (s.length - p) (c3 - (p + v.length))), (53, .slice (some ⟨b, p * 3, none⟩) (s.drop p).length (c - p))]) (obs := [fun _ => (.int .i64 (IntKind.i64.wrap ((p : Int) + (v.length : Int))) : Value) = .int .i64 ((p + v.length : Nat) : Int), fun _ => 0 ≤ ((p + v.length : Nat) : Int) ∧ ((p + v.length : Nat) : Int) ≤ ((s.length + v.length : Nat) : Int) ∧ ((s.length + v.length : Nat) : Int) ≤ ((c3 : Nat) : Int), fun _ => cutV (some ⟨b2, 0, none⟩) c3 3 (p + v.length) (s.length + v.length) = .slice (some ⟨b2, (p + v.length) * 3, none⟩) (s.length - p) (c3 - (p + v.length)), fun _ => 0 ≤ (p : Int) ∧ (p : Int) ≤ ((s.length : Nat) : Int) ∧ ((s.length : Nat) : Int) ≤ ((c : Nat) : Int), fun _ => cutV (some ⟨b, 0, none⟩) c 3 p s.length = .slice (some ⟨b, p * 3, none⟩) (s.drop p).length (c - p)]) (by kernel_rfl) (by kernel_rfl) (by kernel_rfl) (.inr fun w hs => trivial) (fun w hS => hobs) (fun w hs => hobs) ?_
    refine at_x1 0 8 (#[true, true, true, true, true, true, true, true, true]) rfl (by kernel_rfl) (by kernel_rfl) rfl rfl ?_
    refine eff_copy (K := k_impl_Key) (zs := s.drop p) 0 (p + v.length) rfl rfl rfl rfl rfl und23 hi_ hs_ rfl rfl hsp4 rfl (fun w hs => hsp.rowAt (k := 1) p (s.drop p) (fun j x hx => spare_get2 p j x hx) hs rfl) (by simp only [List.length_drop]; omega) (by simp only [List.length_drop]; omega) (fun s5 hsp5 => ?_)
    refine at_xX (by kernel_rfl) ?_
    refine at_xend (by kernel_rfl) ?_
    refine at_thn ?_
    have hown : Own k_impl_Key 25 I0 (some ⟨b2, 0, none⟩) c3 (s.take p ++ v ++ s.drop p) s5 := hsp5.own (lay_ins hps (by simp only [List.length_append, List.length_map, List.length_replicate, List.length_take]; omega) (fun j hj => grown_get hps j hj)) (by omega)
    refine at_seq ?_
    refine at_reg [(1, .slice (some ⟨b2, 0, none⟩) (s.take p ++ v ++ s.drop p).length c3)] [6] (L2 := [(6, .slice (some ⟨b2, 0, none⟩) (s.take p ++ v ++ s.drop p).length c3)]) (obs := [fun _ => (.slice (some ⟨b2, 0, none⟩) (s.length + v.length) c3 : Value) = .slice (some ⟨b2, 0, none⟩) (s.take p ++ v ++ s.drop p).length c3]) (by kernel_rfl) ?_ ?_
    · intro w hs; exact (by show (_ : Value) = _; rw [hrl])
    refine at_thn ?_
    refine at_ret ?_
    refine at_then_ret ?_
    refine at_drop (k := 2) rfl rfl ?_
    refine at_drop (k := 1) rfl rfl ?_
    refine at_done (vs := [.slice (some ⟨b2, 0, none⟩) (s.take p ++ v ++ s.drop p).length c3]) (obs := []) (.inl rfl) [.tmp 6] [] rfl (by kernel_rfl) (fun w hs => trivial) (fun w hs => ⟨_, _, [s5], rfl, ⟨_, _, _, rfl, rfl, hown⟩, hle, hs⟩)
  refine at_cond_f rfl (decide_eq_false hg) ?_
  refine at_skip ?_
  refine at_thn ?_
  refine at_seq ?_
  refine at_reg [(3, .int .i64 ((s.length + v.length : Nat) : Int)), (4, .slice (some ⟨b, 0, none⟩) (s.length + v.length) c)] [0, 1, 2, 7, 8] (L2 := [(0, .slice (some ⟨b, 0, none⟩) (s.length + v.length) c), (1, .int .i64 (p : Int)), (2, .slice (some a2) v.length c2), (7, .int .i64 (v.length : Int)), (8, .int .i64 (s.length : Int))]) (obs := [fun _ => (.int .i64 (IntKind.i64.wrap ((s.length : Int) + (v.length : Int))) : Value) = .int .i64 ((s.length + v.length : Nat) : Int), fun _ => 0 ≤ (0 : Int) ∧ (0 : Int) ≤ ((s.length + v.length : Nat) : Int) ∧ ((s.length + v.length : Nat) : Int) ≤ ((c : Nat) : Int), fun _ => cutV (some ⟨b, 0, none⟩) c 3 0 (s.length + v.length) = .slice (some ⟨b, 0, none⟩) (s.length + v.length) c]) (by kernel_rfl) ?_ ?_
  · intro w hs; exact ⟨wrapN (by omega) (by omega), ⟨by omega, by omega, by omega⟩, cut_zero⟩
  refine at_thn ?_
  refine at_seq ?_
  refine at_seq ?_
  refine at_ops [0, 1, 2, 3, 4, 5, 6, 7] rfl ?_
  refine at_seg [0, 1, 2, 3, 4, 5] [6, 7] rfl [(4, .int .i64 ((p + v.length : Nat) : Int)), (5, .slice (some ⟨b, (p + v.length) * 3, none⟩) (s.length - p) (c - (p + v.length)))] [0, 1, 2, 7, 8, 61, 66] (L2 := [(0, .slice (some ⟨b, 0, none⟩) (s.length + v.length) c), (1, .int .i64 (p : Int)), (2, .slice (some a2) v.length c2), (7, .int .i64 (v.length : Int)), (8, .int .i64 (s.length : Int)), (61, .slice (some a2) v.length c2), (66, .slice (some ⟨b, (p + v.length) * 3, none⟩) (s.length - p) (c - (p + v.length)))]) (obs := [fun _ => (.int .i64 (IntKind.i64.wrap ((p : Int) + (v.length : Int))) : Value) = .int .i64 ((p + v.length : Nat) : Int), fun _ => 0 ≤ ((p + v.length : Nat) : Int) ∧ ((p + v.length : Nat) : Int) ≤ ((s.length + v.length : Nat) : Int) ∧ ((s.length + v.length : Nat) : Int) ≤ ((c : Nat) : Int), fun _ => cutV (some ⟨b, 0, none⟩) c 3 (p + v.length) (s.length + v.length) = .slice (some ⟨b, (p + v.length) * 3, none⟩) (s.length - p) (c - (p + v.length))]) (by kernel_rfl) ?_ ?_
  · intro w hs; exact ⟨wrapN (by omega) (by omega), ⟨by omega, by omega, by omega⟩, (by show (_ : Value) = _; rw [cut_at (by omega), show s.length + v.length - (p + v.length) = s.length - p by omega])⟩
  refine at_eff rfl rfl ?_
  refine eff_overlapsOwn (K := k_impl_Key) (fn := Try.f35) (tS := 23) (tR := 4) 1 0 rfl rfl Try.func35 (by kernel_rfl) (by kernel_rfl) (by kernel_rfl) (by kernel_rfl) rfl und23 hi_ rfl ho2 hsp rfl rfl (by decide) (by omega) (by decide) ?_
  refine at_seg [7] [] rfl [] [0, 1, 2, 7, 8, 68] (L2 := [(0, .slice (some ⟨b, 0, none⟩) (s.length + v.length) c), (1, .int .i64 (p : Int)), (2, .slice (some a2) v.length c2), (7, .int .i64 (v.length : Int)), (8, .int .i64 (s.length : Int)), (68, .bool (!false))]) (obs := []) (by kernel_rfl) ?_ ?_
  · intro w hs; exact trivial
  refine at_end ?_
  refine at_thn ?_
  refine at_cond_t rfl rfl ?_
  refine at_seq ?_
  refine at_x hmo (fun w => True) [8] ?_
  have hobs : (Value.int .i64 (IntKind.i64.wrap ((p : Int) + (v.length : Int))) = .int .i64 ((p + v.length : Nat) : Int)) ∧ (0 ≤ ((p + v.length : Nat) : Int) ∧ ((p + v.length : Nat) : Int) ≤ ((s.length + v.length : Nat) : Int) ∧ ((s.length + v.length : Nat) : Int) ≤ ((c : Nat) : Int)) ∧ (cutV (some ⟨b, 0, none⟩) c 3 (p + v.length) (s.length + v.length) = .slice (some ⟨b, (p + v.length) * 3, none⟩) (s.length - p) (c - (p + v.length))) ∧ (0 ≤ (p : Int) ∧ (p : Int) ≤ ((s.length + v.length : Nat) : Int) ∧ ((s.length + v.length : Nat) : Int) ≤ ((c : Nat) : Int)) ∧ (cutV (some ⟨b, 0, none⟩) c 3 p (s.length + v.length) = .slice (some ⟨b, p * 3, none⟩) (s.length + v.length - p) (c - p)) := ⟨wrapN (by omega) (by omega), ⟨by omega, by omega, by omega⟩, (by rw [cut_at (by omega), show s.length + v.length - (p + v.length) = s.length - p by omega]), ⟨by omega, by omega, by omega⟩, cut_at (by omega)⟩
  refine at_xseg [0, 1, 2, 3, 4, 5, 6, 7] 1 (#[true, true, true, true, true, true, true, true, false]) rfl (by kernel_rfl) [(3, .int .i64 ((p + v.length : Nat) : Int)), (4, .slice (some ⟨b, (p + v.length) * 3, none⟩) (s.length - p) (c - (p + v.length))), (7, .slice (some ⟨b, p * 3, none⟩) (s.length + v.length - p) (c - p))] [0, 1, 2, 7, 8, 73, 76] (L2 := [(0, .slice (some ⟨b, 0, none⟩) (s.length + v.length) c), (1, .int .i64 (p : Int)), (2, .slice (some a2) v.length c2), (7, .int .i64 (v.length : Int)), (8, .int .i64 (s.length : Int)), (73, .slice (some ⟨b, (p + v.length) * 3, none⟩) (s.length - p) (c - (p + v.length))), (76, .slice (some ⟨b, p * 3, none⟩) (s.length + v.length - p) (c - p))]) (obs := [fun _ => (.int .i64 (IntKind.i64.wrap ((p : Int) + (v.length : Int))) : Value) = .int .i64 ((p + v.length : Nat) : Int), fun _ => 0 ≤ ((p + v.length : Nat) : Int) ∧ ((p + v.length : Nat) : Int) ≤ ((s.length + v.length : Nat) : Int) ∧ ((s.length + v.length : Nat) : Int) ≤ ((c : Nat) : Int), fun _ => cutV (some ⟨b, 0, none⟩) c 3 (p + v.length) (s.length + v.length) = .slice (some ⟨b, (p + v.length) * 3, none⟩) (s.length - p) (c - (p + v.length)), fun _ => 0 ≤ (p : Int) ∧ (p : Int) ≤ ((s.length + v.length : Nat) : Int) ∧ ((s.length + v.length : Nat) : Int) ≤ ((c : Nat) : Int), fun _ => cutV (some ⟨b, 0, none⟩) c 3 p (s.length + v.length) = .slice (some ⟨b, p * 3, none⟩) (s.length + v.length - p) (c - p)]) (by kernel_rfl) (by kernel_rfl) (by kernel_rfl) (.inr fun w hs => trivial) (fun w hS => hobs) (fun w hs => hobs) ?_
  refine at_x1 0 8 (#[true, true, true, true, true, true, true, true, true]) rfl (by kernel_rfl) (by kernel_rfl) rfl rfl ?_
  refine eff_copyPart (K := k_impl_Key) (zs := s.drop p) 0 (p + v.length) rfl rfl rfl rfl rfl und23 hi_ hs_ rfl rfl hsp rfl (fun w hs => hsp.rowAt (k := 0) p (s.drop p) (fun j x hx => spare_get2 p j x hx) hs rfl) (by simp only [List.length_drop]; omega) (by simp only [List.length_drop]; omega) (fun s5 hsp5 => ?_)
  refine at_xX (by kernel_rfl) ?_
  refine at_xend (by kernel_rfl) ?_
  refine at_thn ?_
  refine at_keep [0, 1, 2, 7, 8] (L2 := [(0, .slice (some ⟨b, 0, none⟩) (s.length + v.length) c), (1, .int .i64 (p : Int)), (2, .slice (some a2) v.length c2), (7, .int .i64 (v.length : Int)), (8, .int .i64 (s.length : Int))]) rfl ?_
  refine at_seq ?_
  refine at_ops [0, 1, 2, 3, 4] rfl ?_
  refine at_seg [0, 1, 2, 3] [4] rfl [(2, .slice (some ⟨b, p * 3, none⟩) (s.length + v.length - p) (c - p))] [0, 1, 2, 7, 8, 80, 81] (L2 := [(0, .slice (some ⟨b, 0, none⟩) (s.length + v.length) c), (1, .int .i64 (p : Int)), (2, .slice (some a2) v.length c2), (7, .int .i64 (v.length : Int)), (8, .int .i64 (s.length : Int)), (80, .slice (some ⟨b, p * 3, none⟩) (s.length + v.length - p) (c - p)), (81, .slice (some a2) v.length c2)]) (obs := [fun _ => 0 ≤ (p : Int) ∧ (p : Int) ≤ ((s.length + v.length : Nat) : Int) ∧ ((s.length + v.length : Nat) : Int) ≤ ((c : Nat) : Int), fun _ => cutV (some ⟨b, 0, none⟩) c 3 p (s.length + v.length) = .slice (some ⟨b, p * 3, none⟩) (s.length + v.length - p) (c - p)]) (by kernel_rfl) ?_ ?_
  · intro w hs; exact ⟨⟨by omega, by omega, by omega⟩, cut_at (by omega)⟩
  refine at_eff rfl rfl ?_
  refine eff_copy (K := k_impl_Key) (zs := v) 0 p rfl rfl rfl rfl rfl und23 hi_ hs_ rfl rfl hsp5 rfl (fun w hs => ho2.rowAt (k := 1) hs rfl) (by omega) (by omega) (fun s6 hsp6 => ?_)
  refine at_keep [0] (L2 := [(0, .slice (some ⟨b, 0, none⟩) (s.length + v.length) c)]) rfl ?_
  refine at_end ?_
  refine at_thn ?_
  have hown : Own k_impl_Key 25 I0 (some ⟨b, 0, none⟩) c (s.take p ++ v ++ s.drop p) s6 := hsp6.own (lay_ins2 hps (by simp only [List.length_append, List.length_map, List.length_replicate]; omega) (fun j hj => spare_get j (by omega))) (by omega)
  refine at_seq ?_
  refine at_reg [(1, .slice (some ⟨b, 0, none⟩) (s.take p ++ v ++ s.drop p).length c)] [6] (L2 := [(6, .slice (some ⟨b, 0, none⟩) (s.take p ++ v ++ s.drop p).length c)]) (obs := [fun _ => (.slice (some ⟨b, 0, none⟩) (s.length + v.length) c : Value) = .slice (some ⟨b, 0, none⟩) (s.take p ++ v ++ s.drop p).length c]) (by kernel_rfl) ?_ ?_
  · intro w hs; exact (by show (_ : Value) = _; rw [hrl])
  refine at_thn ?_
  refine at_ret ?_
  refine at_then_ret ?_
  refine at_drop (k := 1) rfl rfl ?_
  refine at_done (vs := [.slice (some ⟨b, 0, none⟩) (s.take p ++ v ++ s.drop p).length c]) (obs := []) (.inl rfl) [.tmp 6] [] rfl (by kernel_rfl) (fun w hs => trivial) (fun w hs => ⟨_, _, [s6], rfl, ⟨_, _, _, rfl, rfl, hown⟩, hle, hs⟩)

/-! ### loop.example/g00146/impl.KeyBind: function 6 -/
def impl_KeyBind (k : Nat) (p38 : List T_impl_Key) (p42 : T_impl_Key) : Option (List T_impl_Key) := (impl_isMany (p38.length : Int)).bind fun b3 => (if b3 = true then (some ([] : List T_impl_Key)) else ((impl_Key p38).bind fun b4 => ((impl_KeysRight k p38).bind fun b5 => (if b5 = true then ((impl_keyRight k p42).bind fun b6 => (if b6 = true then ((impl_Key_18_at_19 k b4 p42).bind fun b7 => (if b7.2 = true then (if 0 ≤ b7.1 then (if b7.1 < (b4.length : Int) then (some (b4.set b7.1.toNat p42)) else none) else none) else (if (b4.length : Int) < 60 then ((impl_Key' b4 b7.1 ([p42] : List T_impl_Key)).bind fun b8 => (some b8)) else (some b4)))) else (some b4))) else (some b4)))))
set_option maxHeartbeats 4000000 in
set_option maxRecDepth 100000 in
theorem impl_KeyBind.calls {k : Nat} {p38 : List T_impl_Key} {p42 : T_impl_Key} {r : (List T_impl_Key)} {I0 : Imm} {A39 : Option Addr} {c40 : Nat} (H : impl_KeyBind k p38 p42 = some r) (hr41 : Rd k_impl_Key I0 A39 c40 p38) :
    Meets Try.prog 6 ([.slice A39 p38.length c40, .agg #[.int .i64 p42.Map, str p42.Keys, str p42.Name]] : List Value).toArray I0 [] (fun v J M => ∃ (A_1 : Option Addr) (c_2 : Nat) (s_3 : Seg), v = .slice A_1 r.length c_2 ∧ M = [s_3] ∧ Own k_impl_Key 25 J A_1 c_2 r s_3) := by
  have hle := ImmLe.refl I0
  unfold impl_KeyBind at H
  refine fn_intro (fn := Try.f6) 44 Try.func6 rfl rfl rfl (fun E Fs => ?_)
  refine at_seq ?_
  refine at_ops [0, 1] rfl ?_
  refine at_eff rfl rfl ?_
  refine eff_box rfl rfl rfl #[.int .i64 p42.Map, str p42.Keys, str p42.Name] rfl (fun g43 => ?_)
  refine at_seg [1] [] rfl [] [0, 3] (L2 := [(0, .slice A39 p38.length c40), (3, .pointer (some ⟨g43, 0, none⟩))]) (obs := []) (by kernel_rfl) ?_ ?_
  · intro w hs; exact trivial
  refine at_end ?_
  refine at_thn ?_
  refine at_seq ?_
  refine at_seq ?_
  refine at_ops [0, 1, 2] rfl ?_
  refine at_seg [0, 1] [2] rfl [] [0, 3, 9] (L2 := [(0, .slice A39 p38.length c40), (3, .pointer (some ⟨g43, 0, none⟩)), (9, .int .i64 (p38.length : Int))]) (obs := []) (by kernel_rfl) ?_ ?_
  · intro w hs; exact trivial
  refine at_eff rfl rfl ?_
  obtain ⟨b3, H44, H⟩ := bind_some H
  have hm_ := impl_isMany.calls (I0 := I0) H44
  refine eff_call rfl rfl ok15 rfl rfl (show Meets Try.prog 15 ([.int .i64 (p38.length : Int)] : List Value).toArray _ [] _ from hm_) (Mr := ([(g43, .cells #[.int .i64 p42.Map, str p42.Keys, str p42.Name] 25 (0, 0))] :: Fs)) (List.Perm.refl _) (fun v45 J46 M47 hq48 hJ49 => ?_)
  replace hle := hle.trans hJ49
  replace hr41 := hr41.mono hJ49
  obtain ⟨rfl, rfl⟩ := hq48
  refine at_end ?_
  refine at_thn ?_
  by_cases h50 : b3 = true
  · rw [if_pos h50] at H
    refine at_cond_t rfl (h50) ?_
    refine at_seq ?_
    refine at_reg [] [4] (L2 := [(4, .slice none ([] : List T_impl_Key).length 0)]) (obs := []) (by kernel_rfl) ?_ ?_
    · intro w hs; exact trivial
    refine at_thn ?_
    refine at_ret ?_
    refine at_then_ret ?_
    refine at_nilseg ?_
    have ho51 := Own.nil k_impl_Key 25 J46
    obtain rfl := Option.some.inj H
    refine at_drop (k := 1) rfl rfl ?_
    refine at_done (vs := [.slice none ([] : List T_impl_Key).length 0]) (obs := []) (.inl rfl) [.tmp 4] [] rfl (by kernel_rfl) (fun w hs => trivial) (fun w hs => ⟨_, _, [[]], rfl, ⟨none, 0, [], rfl, rfl, ho51⟩, hle, hs⟩)
  · rw [if_neg h50] at H
    refine at_cond_f rfl (ff_of h50) ?_
    refine at_skip ?_
    refine at_thn ?_
    refine at_seq ?_
    refine at_ops [0, 1, 2] rfl ?_
    refine at_seg [0] [1, 2] rfl [] [0, 3, 11] (L2 := [(0, .slice A39 p38.length c40), (3, .pointer (some ⟨g43, 0, none⟩)), (11, .slice A39 p38.length c40)]) (obs := []) (by kernel_rfl) ?_ ?_
    · intro w hs; exact trivial
    refine at_eff rfl rfl ?_
    obtain ⟨b4, H52, H⟩ := bind_some H
    have hm_ := impl_Key.calls (I0 := J46) H52 hr41
    refine eff_call rfl rfl ok16 rfl rfl (show Meets Try.prog 16 ([.slice A39 p38.length c40] : List Value).toArray _ [] _ from hm_) (Mr := ([(g43, .cells #[.int .i64 p42.Map, str p42.Keys, str p42.Name] 25 (0, 0))] :: Fs)) (List.Perm.refl _) (fun v53 J54 M55 hq56 hJ57 => ?_)
    replace hle := hle.trans hJ57
    replace hr41 := hr41.mono hJ57
    obtain ⟨A58, c59, s60, rfl, rfl, ho61⟩ := hq56
    refine at_seg [2] [] rfl [] [0, 3, 5] (L2 := [(0, .slice A39 p38.length c40), (3, .pointer (some ⟨g43, 0, none⟩)), (5, .slice A58 b4.length c59)]) (obs := []) (by kernel_rfl) ?_ ?_
    · intro w hs; exact trivial
    refine at_end ?_
    refine at_thn ?_
    refine at_seq ?_
    refine at_seq ?_
    refine at_ops [0, 1, 2, 3, 4, 5, 6, 7] rfl ?_
    refine at_seg [0] [1, 2, 3, 4, 5, 6, 7] rfl [] [3, 5, 13] (L2 := [(3, .pointer (some ⟨g43, 0, none⟩)), (5, .slice A58 b4.length c59), (13, .slice A39 p38.length c40)]) (obs := []) (by kernel_rfl) ?_ ?_
    · intro w hs; exact trivial
    refine at_eff rfl rfl ?_
    obtain ⟨b5, H62, H⟩ := bind_some H
    have hm_ := impl_KeysRight.calls (I0 := J54) H62 hr41
    refine eff_call rfl rfl ok10 rfl rfl (show Meets Try.prog 10 ([.slice A39 p38.length c40] : List Value).toArray _ [] _ from hm_) (Mr := (s60 :: [(g43, .cells #[.int .i64 p42.Map, str p42.Keys, str p42.Name] 25 (0, 0))] :: Fs)) (List.Perm.refl _) (fun v63 J64 M65 hq66 hJ67 => ?_)
    replace hle := hle.trans hJ67
    replace ho61 := ho61.mono hJ67
    replace hr41 := hr41.mono hJ67
    obtain ⟨rfl, rfl⟩ := hq66
    by_cases h68 : b5 = true
    · rw [if_pos h68] at H
      refine at_seg [2, 3, 4] [5, 6, 7] rfl [(3, .bool false), (4, .agg #[.int .i64 p42.Map, str p42.Keys, str p42.Name])] [3, 5, 16, 17] (L2 := [(3, .pointer (some ⟨g43, 0, none⟩)), (5, .slice A58 b4.length c59), (16, .bool false), (17, .agg #[.int .i64 p42.Map, str p42.Keys, str p42.Name])]) (obs := [fun _ => (.bool (!b5) : Value) = .bool false, fun w => CellsAt w ⟨g43, 0, none⟩ [.int .i64 p42.Map, str p42.Keys, str p42.Name] 0]) (by kernel_rfl) ?_ ?_
      · intro w hs; exact ⟨congrArg Value.bool (not_ff (h68)), cellsV (k := 1) hs rfl _ 0 (Nat.le_of_ble_eq_true (by kernel_rfl)) rfl⟩
      refine at_eff rfl rfl ?_
      obtain ⟨b6, H69, H⟩ := bind_some H
      have hm_ := impl_keyRight.calls (I0 := J64) H69
      refine eff_call rfl rfl ok17 rfl rfl (show Meets Try.prog 17 ([.agg #[.int .i64 p42.Map, str p42.Keys, str p42.Name]] : List Value).toArray _ [] _ from hm_) (Mr := (s60 :: [(g43, .cells #[.int .i64 p42.Map, str p42.Keys, str p42.Name] 25 (0, 0))] :: Fs)) (List.Perm.refl _) (fun v70 J71 M72 hq73 hJ74 => ?_)
      replace hle := hle.trans hJ74
      replace ho61 := ho61.mono hJ74
      obtain ⟨rfl, rfl⟩ := hq73
      refine at_seg [6, 7] [] rfl [] [3, 5, 20] (L2 := [(3, .pointer (some ⟨g43, 0, none⟩)), (5, .slice A58 b4.length c59), (20, .bool (!b6))]) (obs := []) (by kernel_rfl) ?_ ?_
      · intro w hs; exact trivial
      refine at_end ?_
      refine at_thn ?_
      by_cases h75 : b6 = true
      · rw [if_pos h75] at H
        refine at_cond_f rfl (not_ff (h75)) ?_
        refine at_skip ?_
        refine at_thn ?_
        refine at_seq ?_
        refine at_ops [0, 1, 2, 3, 4, 5, 6, 7] rfl ?_
        refine at_seg [0, 1] [2, 3, 4, 5, 6, 7] rfl [(1, .agg #[.int .i64 p42.Map, str p42.Keys, str p42.Name])] [3, 5, 23, 24] (L2 := [(3, .pointer (some ⟨g43, 0, none⟩)), (5, .slice A58 b4.length c59), (23, .slice A58 b4.length c59), (24, .agg #[.int .i64 p42.Map, str p42.Keys, str p42.Name])]) (obs := [fun w => CellsAt w ⟨g43, 0, none⟩ [.int .i64 p42.Map, str p42.Keys, str p42.Name] 0]) (by kernel_rfl) ?_ ?_
        · intro w hs; exact cellsV (k := 1) hs rfl _ 0 (Nat.le_of_ble_eq_true (by kernel_rfl)) rfl
        refine at_eff rfl rfl ?_
        obtain ⟨b7, H76, H⟩ := bind_some H
        refine eff_read rfl rfl (rv := .tuple #[.int .i64 b7.1, .bool b7.2]) (Ms' := (s60 :: [(g43, .cells #[.int .i64 p42.Map, str p42.Keys, str p42.Name] 25 (0, 0))] :: Fs)) ok18 rfl rfl ?_ ?_
        · refine Reads.lend (k := 0) rfl (fun J77 hJ78 hin79 => ?_)
          exact Reads.of_meets (Mr := ([(g43, .cells #[.int .i64 p42.Map, str p42.Keys, str p42.Name] 25 (0, 0))] :: Fs)) (show Meets Try.prog 18 ([.slice A58 b4.length c59, .agg #[.int .i64 p42.Map, str p42.Keys, str p42.Name], .func (.func 19) #[] #[]] : List Value).toArray J77 [] _ from impl_Key_18_at_19.calls (I0 := J77) H76 (ho61.rd hJ78 hin79)) (List.Perm.refl _)
        refine at_seg [3, 4, 5, 6, 7] [] rfl [] [3, 5, 6, 7] (L2 := [(3, .pointer (some ⟨g43, 0, none⟩)), (5, .slice A58 b4.length c59), (6, .int .i64 b7.1), (7, .bool b7.2)]) (obs := []) (by kernel_rfl) ?_ ?_
        · intro w hs; exact trivial
        refine at_end ?_
        refine at_thn ?_
        refine at_seq ?_
        refine at_block ?_
        refine at_seq ?_
        refine at_reg [] [3, 5, 6, 28] (L2 := [(3, .pointer (some ⟨g43, 0, none⟩)), (5, .slice A58 b4.length c59), (6, .int .i64 b7.1), (28, .bool b7.2)]) (obs := []) (by kernel_rfl) ?_ ?_
        · intro w hs; exact trivial
        refine at_thn ?_
        by_cases h80 : b7.2 = true
        · rw [if_pos h80] at H
          refine at_cond_t rfl (h80) ?_
          refine at_ops [0, 1, 2, 3, 4] rfl ?_
          obtain ⟨h81, H⟩ := ite_some H
          obtain ⟨h82, H⟩ := ite_some H
          refine at_seg [0, 1, 2, 3] [4] rfl [(2, .agg #[.int .i64 p42.Map, str p42.Keys, str p42.Name])] [5, 32, 33] (L2 := [(5, .slice A58 b4.length c59), (32, .agg #[.int .i64 p42.Map, str p42.Keys, str p42.Name]), (33, .pointer (some ((A58.getD ad0).add (b7.1.toNat * 3))))]) (obs := [fun w => CellsAt w ⟨g43, 0, none⟩ [.int .i64 p42.Map, str p42.Keys, str p42.Name] 0, fun _ => A58.isSome = true ∧ 0 ≤ b7.1 ∧ b7.1 < ((b4.length : Nat) : Int)]) (by kernel_rfl) ?_ ?_
          · intro w hs; exact ⟨cellsV (k := 1) hs rfl _ 0 (Nat.le_of_ble_eq_true (by kernel_rfl)) rfl, ⟨ho61.ne b7.1 h81 h82, h81, h82⟩⟩
          refine at_eff rfl rfl ?_
          refine eff_storeOwn (K := k_impl_Key) (u := p42) 0 0 z_impl_Key b7.1 rfl rfl rfl rfl ho61 rfl h81 h82 (add0 _).symm rfl (Nat.le_of_ble_eq_true (by kernel_rfl)) rfl (by rintro cs_ rfl; exact rfl) (fun s83 ho84 => ?_)
          refine at_eqL2 (L1 := [(5, .slice A58 b4.length c59), (32, .agg #[.int .i64 p42.Map, str p42.Keys, str p42.Name]), (33, .pointer (some ((A58.getD ad0).add (b7.1.toNat * 3))))]) (L2 := [(5, .slice A58 (b4.set b7.1.toNat p42).length c59), (32, .agg #[.int .i64 p42.Map, str p42.Keys, str p42.Name]), (33, .pointer (some ((A58.getD ad0).add (b7.1.toNat * 3))))]) rfl (by simp only [List.length_set]) ?_
          refine at_end ?_
          refine at_in_norm ?_
          refine at_thn ?_
          refine at_seq ?_
          refine at_reg [] [4] (L2 := [(4, .slice A58 (b4.set b7.1.toNat p42).length c59)]) (obs := []) (by kernel_rfl) ?_ ?_
          · intro w hs; exact trivial
          refine at_thn ?_
          refine at_ret ?_
          obtain rfl := Option.some.inj H
          refine at_drop (k := 1) rfl rfl ?_
          refine at_done (vs := [.slice A58 (b4.set b7.1.toNat p42).length c59]) (obs := []) (.inl rfl) [.tmp 4] [] rfl (by kernel_rfl) (fun w hs => trivial) (fun w hs => ⟨_, _, [s83], rfl, ⟨A58, c59, s83, rfl, rfl, ho84⟩, hle, hs⟩)
        · rw [if_neg h80] at H
          refine at_cond_f rfl (ff_of h80) ?_
          refine at_seq ?_
          refine at_reg [] [3, 5, 6, 34] (L2 := [(3, .pointer (some ⟨g43, 0, none⟩)), (5, .slice A58 b4.length c59), (6, .int .i64 b7.1), (34, .bool (decide ((b4.length : Int) < 60)))]) (obs := []) (by kernel_rfl) ?_ ?_
          · intro w hs; exact trivial
          refine at_thn ?_
          by_cases h85 : (b4.length : Int) < 60
          · rw [if_pos h85] at H
            refine at_cond_t rfl (decide_eq_true h85) ?_
            refine at_ops [0, 1, 2, 3, 4, 5] rfl ?_
            refine at_seg [0, 1, 2] [3, 4, 5] rfl [(2, .agg #[.int .i64 p42.Map, str p42.Keys, str p42.Name])] [5, 38, 39, 40] (L2 := [(5, .slice A58 b4.length c59), (38, .slice A58 b4.length c59), (39, .int .i64 b7.1), (40, .agg #[.int .i64 p42.Map, str p42.Keys, str p42.Name])]) (obs := [fun w => CellsAt w ⟨g43, 0, none⟩ [.int .i64 p42.Map, str p42.Keys, str p42.Name] 0]) (by kernel_rfl) ?_ ?_
            · intro w hs; exact cellsV (k := 1) hs rfl _ 0 (Nat.le_of_ble_eq_true (by kernel_rfl)) rfl
            refine at_eff rfl rfl ?_
            refine eff_buildSlice (e := 25) (cells := #[.int .i64 p42.Map, str p42.Keys, str p42.Name]) ([p42] : List T_impl_Key).length rfl rfl rfl (by kernel_rfl) (fun g86 => ?_)
            have ho87 := own_lit (K := k_impl_Key) (e := 25) (I := J71) (xs := ([p42] : List T_impl_Key)) (css := [[.int .i64 p42.Map, str p42.Keys, str p42.Name]]) (cells := #[.int .i64 p42.Map, str p42.Keys, str p42.Name]) (b := g86) ⟨rfl, trivial⟩ rfl
            refine at_eff rfl rfl ?_
            obtain ⟨b8, H88, H⟩ := bind_some H
            have hm_ := impl_Key'.calls (I0 := J71) H88 ho61 ho87
            refine eff_call rfl rfl ok20 rfl rfl (show Meets Try.prog 20 ([.slice A58 b4.length c59, .int .i64 b7.1, .slice (some ⟨g86, 0, none⟩ : Option Addr) ([p42] : List T_impl_Key).length (([p42] : List T_impl_Key).length)] : List Value).toArray _ [s60, [(g86, .cells #[.int .i64 p42.Map, str p42.Keys, str p42.Name] 25 (0, 0))]] _ from hm_) (Mr := ([(g43, .cells #[.int .i64 p42.Map, str p42.Keys, str p42.Name] 25 (0, 0))] :: Fs)) ((perm_at (k := 1) rfl).trans ((List.Perm.refl _).cons _)) (fun v89 J90 M91 hq92 hJ93 => ?_)
            replace hle := hle.trans hJ93
            obtain ⟨A94, c95, s96, rfl, rfl, ho97⟩ := hq92
            refine at_seg [5] [] rfl [] [5] (L2 := [(5, .slice A94 b8.length c95)]) (obs := []) (by kernel_rfl) ?_ ?_
            · intro w hs; exact trivial
            refine at_end ?_
            refine at_in_norm ?_
            refine at_thn ?_
            refine at_seq ?_
            refine at_reg [] [4] (L2 := [(4, .slice A94 b8.length c95)]) (obs := []) (by kernel_rfl) ?_ ?_
            · intro w hs; exact trivial
            refine at_thn ?_
            refine at_ret ?_
            obtain rfl := Option.some.inj H
            refine at_drop (k := 1) rfl rfl ?_
            refine at_done (vs := [.slice A94 b8.length c95]) (obs := []) (.inl rfl) [.tmp 4] [] rfl (by kernel_rfl) (fun w hs => trivial) (fun w hs => ⟨_, _, [s96], rfl, ⟨A94, c95, s96, rfl, rfl, ho97⟩, hle, hs⟩)
          · rw [if_neg h85] at H
            refine at_cond_f rfl (decide_eq_false h85) ?_
            refine at_skip ?_
            refine at_in_norm ?_
            refine at_thn ?_
            refine at_seq ?_
            refine at_reg [] [4] (L2 := [(4, .slice A58 b4.length c59)]) (obs := []) (by kernel_rfl) ?_ ?_
            · intro w hs; exact trivial
            refine at_thn ?_
            refine at_ret ?_
            obtain rfl := Option.some.inj H
            refine at_drop (k := 1) rfl rfl ?_
            refine at_done (vs := [.slice A58 b4.length c59]) (obs := []) (.inl rfl) [.tmp 4] [] rfl (by kernel_rfl) (fun w hs => trivial) (fun w hs => ⟨_, _, [s60], rfl, ⟨A58, c59, s60, rfl, rfl, ho61⟩, hle, hs⟩)
      · rw [if_neg h75] at H
        refine at_cond_t rfl (not_tt (ff_of h75)) ?_
        refine at_seq ?_
        refine at_reg [] [4] (L2 := [(4, .slice A58 b4.length c59)]) (obs := []) (by kernel_rfl) ?_ ?_
        · intro w hs; exact trivial
        refine at_thn ?_
        refine at_ret ?_
        refine at_then_ret ?_
        obtain rfl := Option.some.inj H
        refine at_drop (k := 1) rfl rfl ?_
        refine at_done (vs := [.slice A58 b4.length c59]) (obs := []) (.inl rfl) [.tmp 4] [] rfl (by kernel_rfl) (fun w hs => trivial) (fun w hs => ⟨_, _, [s60], rfl, ⟨A58, c59, s60, rfl, rfl, ho61⟩, hle, hs⟩)
    · rw [if_neg h68] at H
      refine at_seg [2, 3, 4] [5, 6, 7] rfl [(3, .bool true)] [3, 5, 16, 17] (L2 := [(3, .pointer (some ⟨g43, 0, none⟩)), (5, .slice A58 b4.length c59), (16, .bool true), (17, undef)]) (obs := [fun _ => (.bool (!b5) : Value) = .bool true]) (by kernel_rfl) ?_ ?_
      · intro w hs; exact congrArg Value.bool (not_tt (ff_of h68))
      refine at_seg [5, 6, 7] [] rfl [] [3, 5, 20] (L2 := [(3, .pointer (some ⟨g43, 0, none⟩)), (5, .slice A58 b4.length c59), (20, .bool true)]) (obs := []) (by kernel_rfl) ?_ ?_
      · intro w hs; exact trivial
      refine at_end ?_
      refine at_thn ?_
      refine at_cond_t rfl (rfl) ?_
      refine at_seq ?_
      refine at_reg [] [4] (L2 := [(4, .slice A58 b4.length c59)]) (obs := []) (by kernel_rfl) ?_ ?_
      · intro w hs; exact trivial
      refine at_thn ?_
      refine at_ret ?_
      refine at_then_ret ?_
      obtain rfl := Option.some.inj H
      refine at_drop (k := 1) rfl rfl ?_
      refine at_done (vs := [.slice A58 b4.length c59]) (obs := []) (.inl rfl) [.tmp 4] [] rfl (by kernel_rfl) (fun w hs => trivial) (fun w hs => ⟨_, _, [s60], rfl, ⟨A58, c59, s60, rfl, rfl, ho61⟩, hle, hs⟩)

/-! ### loop.example/g00146/impl.isLong$1: function 38 -/
def impl_isLong_1 (p99 : List UInt8) : Option Bool := some (decide ((p99.length : Int) > 20000))
set_option maxHeartbeats 4000000 in
set_option maxRecDepth 100000 in
theorem impl_isLong_1.calls {p99 : List UInt8} {r : Bool} {I0 : Imm} (H : impl_isLong_1 p99 = some r) :
    Meets Try.prog 38 ([str p99] : List Value).toArray I0 [] (fun v J M => v = .bool r ∧ M = []) := by
  have hle := ImmLe.refl I0
  unfold impl_isLong_1 at H
  refine fn_intro (fn := Try.f38) 6 Try.func38 rfl rfl rfl (fun E Fs => ?_)
  refine at_seq ?_
  refine at_reg [] [0] (L2 := [(0, str p99)]) (obs := []) (by kernel_rfl) ?_ ?_
  · intro w hs; exact trivial
  refine at_thn ?_
  refine at_seq ?_
  refine at_reg [] [2] (L2 := [(2, .bool (decide ((p99.length : Int) > 20000)))]) (obs := []) (by kernel_rfl) ?_ ?_
  · intro w hs; exact trivial
  refine at_thn ?_
  refine at_ret ?_
  obtain rfl := Option.some.inj H
  refine at_done (vs := [.bool (decide ((p99.length : Int) > 20000))]) (obs := []) (.inl rfl) [.tmp 2] [] rfl (by kernel_rfl) (fun w hs => trivial) (fun w hs => ⟨_, _, [], rfl, ⟨rfl, rfl⟩, hle, hs⟩)

/-! ### slices.IndexFunc[[]string,string]: function 44 -/
def slices_IndexFunc_string_string_at_38_l0 : Nat → Int → (List (List UInt8)) → Option Int
  | 0, _, _ => none
  | k + 1, x97, p93 => if x97 < (p93.length : Int) then (if 0 ≤ x97 then ((impl_isLong_1 (rdA [] p93 x97)).bind fun b6 => (if b6 = true then (some x97) else (slices_IndexFunc_string_string_at_38_l0 k (IntKind.i64.wrap (x97 + 1)) p93))) else none) else (some (-1))
def slices_IndexFunc_string_string_at_38 (k : Nat) (p93 : List (List UInt8)) : Option Int := slices_IndexFunc_string_string_at_38_l0 k 0 p93
set_option maxHeartbeats 4000000 in
set_option maxRecDepth 100000 in
theorem slices_IndexFunc_string_string_at_38.calls {k : Nat} {p93 : List (List UInt8)} {r : Int} {I0 : Imm} {A94 : Option Addr} {c95 : Nat} (H : slices_IndexFunc_string_string_at_38 k p93 = some r) (hr96 : Rd Kd.string I0 A94 c95 p93) :
    Meets Try.prog 44 ([.slice A94 p93.length c95, .func (.func 38) #[] #[]] : List Value).toArray I0 [] (fun v J M => v = .int .i64 r ∧ M = []) := by
  have hle := ImmLe.refl I0
  unfold slices_IndexFunc_string_string_at_38 at H
  refine fn_intro (fn := Try.f44) 19 Try.func44 rfl rfl rfl (fun E Fs => ?_)
  refine at_seq ?_
  refine at_reg [] [0, 1] (L2 := [(0, .slice A94 p93.length c95), (1, .func (.func 38) #[] #[])]) (obs := []) (by kernel_rfl) ?_ ?_
  · intro w hs; exact trivial
  refine at_thn ?_
  refine at_seq ?_
  refine at_seq ?_
  refine at_reg [] [0, 1, 7, 8] (L2 := [(0, .slice A94 p93.length c95), (1, .func (.func 38) #[] #[]), (7, .int .i64 (p93.length : Int)), (8, .int .i64 0)]) (obs := []) (by kernel_rfl) ?_ ?_
  · intro w hs; exact trivial
  refine at_thn ?_
  refine at_block ?_
  refine at_keep [0, 1, 7, 8] (L2 := [(0, .slice A94 p93.length c95), (1, .func (.func 38) #[] #[]), (7, .int .i64 (p93.length : Int)), (8, .int .i64 0)]) rfl ?_
  refine at_loop (fun k98 L I Ms => ∃ (x97 : Int), L = [(0, .slice A94 p93.length c95), (1, .func (.func 38) #[] #[]), (7, .int .i64 (p93.length : Int)), (8, .int .i64 x97)] ∧ Ms = ([] ++ Fs) ∧ slices_IndexFunc_string_string_at_38_l0 k98 x97 p93 = some r ∧ ImmLe I0 I ∧ k98 ≤ k ∧ Rd Kd.string I A94 c95 p93) ?_ ?_ k ⟨0, rfl, rfl, H, hle, Nat.le_refl _, hr96⟩
  · rintro L I Ms ⟨_, rfl, rfl, H, _⟩; exact no_none H
  · clear H hle hr96
    intro k98 ih99 L I Ms h_; obtain ⟨x97, hL_, hM_, H, hle, hk100, hr96⟩ := h_; rw [hL_, hM_]; clear hL_ hM_ L Ms
    rw [slices_IndexFunc_string_string_at_38_l0] at H
    refine at_seq ?_
    refine at_reg [] [0, 1, 7, 8, 9] (L2 := [(0, .slice A94 p93.length c95), (1, .func (.func 38) #[] #[]), (7, .int .i64 (p93.length : Int)), (8, .int .i64 x97), (9, .bool (decide (x97 < (p93.length : Int))))]) (obs := []) (by kernel_rfl) ?_ ?_
    · intro w hs; exact trivial
    refine at_thn ?_
    refine at_seq ?_
    by_cases h101 : x97 < (p93.length : Int)
    · rw [if_pos h101] at H
      refine at_cond_t rfl (decide_eq_true h101) ?_
      refine at_skip ?_
      refine at_thn ?_
      refine at_seq ?_
      refine at_block ?_
      refine at_seq ?_
      refine at_reg [] [0, 1, 5, 7, 8] (L2 := [(0, .slice A94 p93.length c95), (1, .func (.func 38) #[] #[]), (5, .int .i64 x97), (7, .int .i64 (p93.length : Int)), (8, .int .i64 x97)]) (obs := []) (by kernel_rfl) ?_ ?_
      · intro w hs; exact trivial
      refine at_thn ?_
      refine at_seq ?_
      refine at_ops [0, 1, 2, 3, 4, 5] rfl ?_
      obtain ⟨h102, H⟩ := ite_some H
      refine at_seg [0, 1, 2, 3, 4] [5] rfl [(4, str (rdA [] p93 x97))] [0, 1, 5, 7, 8, 11, 15] (L2 := [(0, .slice A94 p93.length c95), (1, .func (.func 38) #[] #[]), (5, .int .i64 x97), (7, .int .i64 (p93.length : Int)), (8, .int .i64 x97), (11, .func (.func 38) #[] #[]), (15, str (rdA [] p93 x97))]) (obs := [fun _ => A94.isSome = true ∧ 0 ≤ x97 ∧ x97 < ((p93.length : Nat) : Int), fun w => w.cell? ((A94.getD ad0).add (x97.toNat * 1)) = some (str (rdA [] p93 x97))]) (by kernel_rfl) ?_ ?_
      · intro w hs; exact ⟨⟨hr96.ne x97 h102 h101, h102, h101⟩, hr96.one [] x97 h102 h101 hs⟩
      refine at_eff rfl rfl ?_
      obtain ⟨b6, H103, H⟩ := bind_some H
      have hm_ := impl_isLong_1.calls (I0 := I) H103
      refine eff_callv (first := []) (captured := []) rfl rfl rfl ok38 rfl rfl (hm_) (Mr := (Fs)) (List.Perm.refl _) (fun v104 J105 M106 hq107 hJ108 => ?_)
      replace hle := hle.trans hJ108
      replace hr96 := hr96.mono hJ108
      obtain ⟨rfl, rfl⟩ := hq107
      refine at_end ?_
      refine at_thn ?_
      by_cases h109 : b6 = true
      · rw [if_pos h109] at H
        refine at_cond_t rfl (h109) ?_
        refine at_seq ?_
        refine at_reg [] [4] (L2 := [(4, .int .i64 x97)]) (obs := []) (by kernel_rfl) ?_ ?_
        · intro w hs; exact trivial
        refine at_thn ?_
        refine at_ret ?_
        refine at_in_ret ?_
        refine at_then_ret ?_
        refine at_then_ret ?_
        refine at_in_ret ?_
        refine at_then_ret ?_
        obtain rfl := Option.some.inj H
        refine at_done (vs := [.int .i64 x97]) (obs := []) (.inl rfl) [.tmp 4] [] rfl (by kernel_rfl) (fun w hs => trivial) (fun w hs => ⟨_, _, [], rfl, ⟨rfl, rfl⟩, hle, hs⟩)
      · rw [if_neg h109] at H
        refine at_cond_f rfl (ff_of h109) ?_
        refine at_skip ?_
        refine at_in_norm ?_
        refine at_thn ?_
        refine at_reg [] [0, 1, 7, 8] (L2 := [(0, .slice A94 p93.length c95), (1, .func (.func 38) #[] #[]), (7, .int .i64 (p93.length : Int)), (8, .int .i64 (IntKind.i64.wrap (x97 + 1)))]) (obs := []) (by kernel_rfl) ?_ ?_
        · intro w hs; exact trivial
        refine at_thn ?_
        refine at_keep [0, 1, 7, 8] (L2 := [(0, .slice A94 p93.length c95), (1, .func (.func 38) #[] #[]), (7, .int .i64 (p93.length : Int)), (8, .int .i64 (IntKind.i64.wrap (x97 + 1)))]) rfl ?_
        exact ih99 _ (by omega) _ _ _ ⟨IntKind.i64.wrap (x97 + 1), rfl, rfl, H, hle, by omega, hr96⟩
    · rw [if_neg h101] at H
      refine at_cond_f rfl (decide_eq_false h101) ?_
      refine at_exit ?_
      refine at_then_exit ?_
      refine at_then_exit ?_
      refine at_in_hit ?_
      refine at_thn ?_
      refine at_seq ?_
      refine at_reg [] [4] (L2 := [(4, .int .i64 (-1))]) (obs := []) (by kernel_rfl) ?_ ?_
      · intro w hs; exact trivial
      refine at_thn ?_
      refine at_ret ?_
      obtain rfl := Option.some.inj H
      refine at_done (vs := [.int .i64 (-1)]) (obs := []) (.inl rfl) [.tmp 4] [] rfl (by kernel_rfl) (fun w hs => trivial) (fun w hs => ⟨_, _, [], rfl, ⟨rfl, rfl⟩, hle, hs⟩)

/-! ### slices.ContainsFunc[[]string,string]: function 37 -/
def slices_ContainsFunc_string_string_at_38 (k : Nat) (p89 : List (List UInt8)) : Option Bool := (slices_IndexFunc_string_string_at_38 k p89).bind fun b6 => (some (decide (b6 ≥ 0)))
set_option maxHeartbeats 4000000 in
set_option maxRecDepth 100000 in
theorem slices_ContainsFunc_string_string_at_38.calls {k : Nat} {p89 : List (List UInt8)} {r : Bool} {I0 : Imm} {A90 : Option Addr} {c91 : Nat} (H : slices_ContainsFunc_string_string_at_38 k p89 = some r) (hr92 : Rd Kd.string I0 A90 c91 p89) :
    Meets Try.prog 37 ([.slice A90 p89.length c91, .func (.func 38) #[] #[]] : List Value).toArray I0 [] (fun v J M => v = .bool r ∧ M = []) := by
  have hle := ImmLe.refl I0
  unfold slices_ContainsFunc_string_string_at_38 at H
  refine fn_intro (fn := Try.f37) 9 Try.func37 rfl rfl rfl (fun E Fs => ?_)
  refine at_seq ?_
  refine at_reg [] [0, 1] (L2 := [(0, .slice A90 p89.length c91), (1, .func (.func 38) #[] #[])]) (obs := []) (by kernel_rfl) ?_ ?_
  · intro w hs; exact trivial
  refine at_thn ?_
  refine at_seq ?_
  refine at_ops [0, 1, 2, 3, 4] rfl ?_
  refine at_seg [0, 1] [2, 3, 4] rfl [] [5, 6] (L2 := [(5, .slice A90 p89.length c91), (6, .func (.func 38) #[] #[])]) (obs := []) (by kernel_rfl) ?_ ?_
  · intro w hs; exact trivial
  refine at_eff rfl rfl ?_
  obtain ⟨b6, H93, H⟩ := bind_some H
  have hm_ := slices_IndexFunc_string_string_at_38.calls (I0 := I0) H93 hr92
  refine eff_call rfl rfl ok44 rfl rfl (show Meets Try.prog 44 ([.slice A90 p89.length c91, .func (.func 38) #[] #[]] : List Value).toArray _ [] _ from hm_) (Mr := (Fs)) (List.Perm.refl _) (fun v94 J95 M96 hq97 hJ98 => ?_)
  replace hle := hle.trans hJ98
  replace hr92 := hr92.mono hJ98
  obtain ⟨rfl, rfl⟩ := hq97
  refine at_seg [3, 4] [] rfl [] [4] (L2 := [(4, .bool (decide (b6 ≥ 0)))]) (obs := []) (by kernel_rfl) ?_ ?_
  · intro w hs; exact trivial
  refine at_end ?_
  refine at_thn ?_
  refine at_ret ?_
  obtain rfl := Option.some.inj H
  refine at_done (vs := [.bool (decide (b6 ≥ 0))]) (obs := []) (.inl rfl) [.tmp 4] [] rfl (by kernel_rfl) (fun w hs => trivial) (fun w hs => ⟨_, _, [], rfl, ⟨rfl, rfl⟩, hle, hs⟩)

/-! ### loop.example/g00146/impl.isLong: function 22 -/
def impl_isLong (k : Nat) (p85 : List (List UInt8)) : Option Bool := (slices_ContainsFunc_string_string_at_38 k p85).bind fun b6 => (some b6)
set_option maxHeartbeats 4000000 in
set_option maxRecDepth 100000 in
theorem impl_isLong.calls {k : Nat} {p85 : List (List UInt8)} {r : Bool} {I0 : Imm} {A86 : Option Addr} {c87 : Nat} (H : impl_isLong k p85 = some r) (hr88 : Rd Kd.string I0 A86 c87 p85) :
    Meets Try.prog 22 ([.slice A86 p85.length c87] : List Value).toArray I0 [] (fun v J M => v = .bool r ∧ M = []) := by
  have hle := ImmLe.refl I0
  unfold impl_isLong at H
  refine fn_intro (fn := Try.f22) 5 Try.func22 rfl rfl rfl (fun E Fs => ?_)
  refine at_seq ?_
  refine at_reg [] [0] (L2 := [(0, .slice A86 p85.length c87)]) (obs := []) (by kernel_rfl) ?_ ?_
  · intro w hs; exact trivial
  refine at_thn ?_
  refine at_seq ?_
  refine at_ops [0, 1, 2] rfl ?_
  refine at_seg [0] [1, 2] rfl [] [3] (L2 := [(3, .slice A86 p85.length c87)]) (obs := []) (by kernel_rfl) ?_ ?_
  · intro w hs; exact trivial
  refine at_eff rfl rfl ?_
  obtain ⟨b6, H89, H⟩ := bind_some H
  have hm_ := slices_ContainsFunc_string_string_at_38.calls (I0 := I0) H89 hr88
  refine eff_call rfl rfl ok37 rfl rfl (show Meets Try.prog 37 ([.slice A86 p85.length c87, .func (.func 38) #[] #[]] : List Value).toArray _ [] _ from hm_) (Mr := (Fs)) (List.Perm.refl _) (fun v90 J91 M92 hq93 hJ94 => ?_)
  replace hle := hle.trans hJ94
  replace hr88 := hr88.mono hJ94
  obtain ⟨rfl, rfl⟩ := hq93
  refine at_seg [2] [] rfl [] [2] (L2 := [(2, .bool b6)]) (obs := []) (by kernel_rfl) ?_ ?_
  · intro w hs; exact trivial
  refine at_end ?_
  refine at_thn ?_
  refine at_ret ?_
  obtain rfl := Option.some.inj H
  refine at_done (vs := [.bool b6]) (obs := []) (.inl rfl) [.tmp 2] [] rfl (by kernel_rfl) (fun w hs => trivial) (fun w hs => ⟨_, _, [], rfl, ⟨rfl, rfl⟩, hle, hs⟩)

/-! ### internal/stringslite.HasPrefix: function 45 -/
def stringslite_HasPrefix (p97 : List UInt8) (p98 : List UInt8) : Option Bool := if (p97.length : Int) ≥ (p98.length : Int) then (if 0 ≤ (p98.length : Int) then (if (p98.length : Int) ≤ (p97.length : Int) then (some (((p97.take (p98.length : Int).toNat).drop 0) == p98)) else none) else none) else (some false)
set_option maxHeartbeats 4000000 in
set_option maxRecDepth 100000 in
theorem stringslite_HasPrefix.calls {p97 : List UInt8} {p98 : List UInt8} {r : Bool} {I0 : Imm} (H : stringslite_HasPrefix p97 p98 = some r) :
    Meets Try.prog 45 ([str p97, str p98] : List Value).toArray I0 [] (fun v J M => v = .bool r ∧ M = []) := by
  have hle := ImmLe.refl I0
  unfold stringslite_HasPrefix at H
  refine fn_intro (fn := Try.f45) 18 Try.func45 rfl rfl rfl (fun E Fs => ?_)
  refine at_seq ?_
  refine at_reg [] [0, 1] (L2 := [(0, str p97), (1, str p98)]) (obs := []) (by kernel_rfl) ?_ ?_
  · intro w hs; exact trivial
  refine at_thn ?_
  refine at_seq ?_
  by_cases h99 : (p97.length : Int) ≥ (p98.length : Int)
  · rw [if_pos h99] at H
    obtain ⟨h100, H⟩ := ite_some H
    obtain ⟨h101, H⟩ := ite_some H
    refine at_reg [(5, .bool true)] [4] (L2 := [(4, .bool (((p97.take (p98.length : Int).toNat).drop 0) == p98))]) (obs := [fun _ => (.bool (decide ((p97.length : Int) ≥ (p98.length : Int))) : Value) = .bool true, fun _ => 0 ≤ (0 : Int) ∧ (0 : Int) ≤ (p98.length : Int) ∧ (p98.length : Int) ≤ ((p97.length : Nat) : Int)]) (by kernel_rfl) ?_ ?_
    · intro w hs; exact ⟨congrArg Value.bool (decide_eq_true h99), ⟨(by decide : (0 : Int) ≤ 0), h100, h101⟩⟩
    refine at_thn ?_
    refine at_ret ?_
    obtain rfl := Option.some.inj H
    refine at_done (vs := [.bool (((p97.take (p98.length : Int).toNat).drop 0) == p98)]) (obs := []) (.inl rfl) [.tmp 4] [] rfl (by kernel_rfl) (fun w hs => trivial) (fun w hs => ⟨_, _, [], rfl, ⟨rfl, rfl⟩, hle, hs⟩)
  · rw [if_neg h99] at H
    refine at_reg [(5, .bool false)] [4] (L2 := [(4, .bool false)]) (obs := [fun _ => (.bool (decide ((p97.length : Int) ≥ (p98.length : Int))) : Value) = .bool false]) (by kernel_rfl) ?_ ?_
    · intro w hs; exact congrArg Value.bool (decide_eq_false h99)
    refine at_thn ?_
    refine at_ret ?_
    obtain rfl := Option.some.inj H
    refine at_done (vs := [.bool false]) (obs := []) (.inl rfl) [.tmp 4] [] rfl (by kernel_rfl) (fun w hs => trivial) (fun w hs => ⟨_, _, [], rfl, ⟨rfl, rfl⟩, hle, hs⟩)

/-! ### strings.HasPrefix: function 39 -/
def strings_HasPrefix (p95 : List UInt8) (p96 : List UInt8) : Option Bool := (stringslite_HasPrefix p95 p96).bind fun b5 => (some b5)
set_option maxHeartbeats 4000000 in
set_option maxRecDepth 100000 in
theorem strings_HasPrefix.calls {p95 : List UInt8} {p96 : List UInt8} {r : Bool} {I0 : Imm} (H : strings_HasPrefix p95 p96 = some r) :
    Meets Try.prog 39 ([str p95, str p96] : List Value).toArray I0 [] (fun v J M => v = .bool r ∧ M = []) := by
  have hle := ImmLe.refl I0
  unfold strings_HasPrefix at H
  refine fn_intro (fn := Try.f39) 8 Try.func39 rfl rfl rfl (fun E Fs => ?_)
  refine at_seq ?_
  refine at_reg [] [0, 1] (L2 := [(0, str p95), (1, str p96)]) (obs := []) (by kernel_rfl) ?_ ?_
  · intro w hs; exact trivial
  refine at_thn ?_
  refine at_seq ?_
  refine at_ops [0, 1, 2, 3] rfl ?_
  refine at_seg [0, 1] [2, 3] rfl [] [5, 6] (L2 := [(5, str p95), (6, str p96)]) (obs := []) (by kernel_rfl) ?_ ?_
  · intro w hs; exact trivial
  refine at_eff rfl rfl ?_
  obtain ⟨b5, H97, H⟩ := bind_some H
  have hm_ := stringslite_HasPrefix.calls (I0 := I0) H97
  refine eff_call rfl rfl ok45 rfl rfl (show Meets Try.prog 45 ([str p95, str p96] : List Value).toArray _ [] _ from hm_) (Mr := (Fs)) (List.Perm.refl _) (fun v98 J99 M100 hq101 hJ102 => ?_)
  replace hle := hle.trans hJ102
  obtain ⟨rfl, rfl⟩ := hq101
  refine at_seg [3] [] rfl [] [4] (L2 := [(4, .bool b5)]) (obs := []) (by kernel_rfl) ?_ ?_
  · intro w hs; exact trivial
  refine at_end ?_
  refine at_thn ?_
  refine at_ret ?_
  obtain rfl := Option.some.inj H
  refine at_done (vs := [.bool b5]) (obs := []) (.inl rfl) [.tmp 4] [] rfl (by kernel_rfl) (fun w hs => trivial) (fun w hs => ⟨_, _, [], rfl, ⟨rfl, rfl⟩, hle, hs⟩)
end Go.Proofs.Ytloojlhlfhmoeaa
