import Derived.Test.YtloojlhlfhmoeaaG7
namespace Go.Proofs.Ytloojlhlfhmoeaa
open Go Eng
set_option linter.unusedVariables false
set_option linter.unusedSimpArgs false
/-! ### loop.example/g00146/impl.look: function 23 -/
mutual
def impl_look_l0 : Nat → Int → Int → (List UInt8) → Int → (List T_impl_Key) → Int → (List UInt8) → Bool → Option T_impl_KeyOut
  | 0, _, _, _, _, _, _, _, _ => none
  | k + 1, x86, x87, x88, x89, p77, p81, p82, p83 => if x86 < (p77.length : Int) then (if 0 ≤ x86 then (if ((rdA z_impl_Key p77 x86).Map) = p81 then (if p83 = true then (if (((rdA z_impl_Key p77 x86).Keys).length : Int) > (p82.length : Int) then ((strings_HasPrefix ((rdA z_impl_Key p77 x86).Keys) p82).bind fun b6 => (impl_look_j0 k b6 p77 p81 p82 p83 x86 x87 x88 x89)) else (impl_look_j0 k false p77 p81 p82 p83 x86 x87 x88 x89)) else (impl_look_j0 k false p77 p81 p82 p83 x86 x87 x88 x89)) else (impl_look_l0 k (IntKind.i64.wrap (x86 + 1)) x87 x88 x89 p77 p81 p82 p83)) else none) else (some (⟨x87, x88, x89⟩ : T_impl_KeyOut))
def impl_look_j0 : Nat → Bool → (List T_impl_Key) → Int → (List UInt8) → Bool → Int → Int → (List UInt8) → Int → Option T_impl_KeyOut
  | 0, _, _, _, _, _, _, _, _, _ => none
  | k + 1, x201, p77, p81, p82, p83, x86, x87, x88, x89 => if x201 = true then (some (⟨2, ([] : List UInt8), 0⟩ : T_impl_KeyOut)) else ((strings_HasPrefix p82 ((rdA z_impl_Key p77 x86).Keys)).bind fun b5 => (if b5 = true then (impl_look_j1 k (decide ((((rdA z_impl_Key p77 x86).Keys).length : Int) > x89)) p77 p81 p82 p83 x86 x87 x88 x89) else (impl_look_j1 k false p77 p81 p82 p83 x86 x87 x88 x89)))
def impl_look_j1 : Nat → Bool → (List T_impl_Key) → Int → (List UInt8) → Bool → Int → Int → (List UInt8) → Int → Option T_impl_KeyOut
  | 0, _, _, _, _, _, _, _, _, _ => none
  | k + 1, x306, p77, p81, p82, p83, x86, x87, x88, x89 => if x306 = true then (impl_look_l0 k (IntKind.i64.wrap (x86 + 1)) 3 ((rdA z_impl_Key p77 x86).Name) (((rdA z_impl_Key p77 x86).Keys).length : Int) p77 p81 p82 p83) else (impl_look_l0 k (IntKind.i64.wrap (x86 + 1)) x87 x88 x89 p77 p81 p82 p83)
end
def impl_look (k : Nat) (p77 : List T_impl_Key) (p81 : Int) (p82 : List UInt8) (p83 : Bool) : Option T_impl_KeyOut := impl_look_l0 k 0 1 ([] : List UInt8) 0 p77 p81 p82 p83
set_option maxHeartbeats 4000000 in
set_option maxRecDepth 100000 in
theorem impl_look.calls {k : Nat} {p77 : List T_impl_Key} {p81 : Int} {p82 : List UInt8} {p83 : Bool} {r : T_impl_KeyOut} {I0 : Imm} {A78 : Option Addr} {c79 : Nat} (H : impl_look k p77 p81 p82 p83 = some r) (hr80 : Rd k_impl_Key I0 A78 c79 p77) :
    Meets Try.prog 23 ([.slice A78 p77.length c79, .int .i64 p81, str p82, .bool p83] : List Value).toArray I0 [] (fun v J M => v = .agg #[.int .i64 r.Kind, str r.Name, .int .i64 r.Used] ∧ M = []) := by
  have hle := ImmLe.refl I0
  unfold impl_look at H
  refine fn_intro (fn := Try.f23) 62 Try.func23 rfl rfl rfl (fun E Fs => ?_)
  refine at_seq ?_
  refine at_ops [0] rfl ?_
  refine at_eff rfl rfl ?_
  obtain ⟨i_, hi_, hz_, _, _⟩ := info31
  refine eff_alloc rfl rfl hi_ hz_ #[.int .i64 0, str ([] : List UInt8), .int .i64 0] rfl (fun g84 => ?_)
  refine at_end ?_
  refine at_thn ?_
  refine at_seq ?_
  refine at_ops [0, 1, 2] rfl ?_
  refine at_seg [0] [1, 2] rfl [] [0, 1, 2, 3, 8, 13] (L2 := [(0, .slice A78 p77.length c79), (1, .int .i64 p81), (2, str p82), (3, .bool p83), (8, .pointer (some ⟨g84, 0, none⟩)), (13, .agg #[.int .i64 1, str ([] : List UInt8), .int .i64 0])]) (obs := []) (by kernel_rfl) ?_ ?_
  · intro w hs; exact trivial
  refine at_eff rfl rfl ?_
  obtain ⟨i_, hi_, hz_, _, _⟩ := info31
  refine eff_alloc rfl rfl hi_ hz_ #[.int .i64 0, str ([] : List UInt8), .int .i64 0] rfl (fun g85 => ?_)
  refine at_eff rfl rfl ?_
  refine eff_store 0 rfl rfl rfl rfl rfl rfl (.inl (Nat.le_refl _)) rfl (Nat.le_of_ble_eq_true (by kernel_rfl)) rfl ?_
  refine at_end ?_
  refine at_thn ?_
  refine at_seq ?_
  refine at_seq ?_
  refine at_reg [] [1, 2, 3, 8, 9, 14, 15, 16] (L2 := [(1, .int .i64 p81), (2, str p82), (3, .bool p83), (8, .pointer (some ⟨g84, 0, none⟩)), (9, .pointer (some ⟨g85, 0, none⟩)), (14, .slice A78 p77.length c79), (15, .int .i64 (p77.length : Int)), (16, .int .i64 0)]) (obs := []) (by kernel_rfl) ?_ ?_
  · intro w hs; exact trivial
  refine at_thn ?_
  refine at_block ?_
  refine at_perm ((perm_at (k := 1) rfl).trans ((List.Perm.refl _).cons _)) ?_
  refine at_keep [1, 2, 3, 8, 9, 14, 15, 16] (L2 := [(1, .int .i64 p81), (2, str p82), (3, .bool p83), (8, .pointer (some ⟨g84, 0, none⟩)), (9, .pointer (some ⟨g85, 0, none⟩)), (14, .slice A78 p77.length c79), (15, .int .i64 (p77.length : Int)), (16, .int .i64 0)]) rfl ?_
  refine at_loop (fun k90 L I Ms => ∃ (x86 : Int) (x87 : Int) (x88 : List UInt8) (x89 : Int), L = [(1, .int .i64 p81), (2, str p82), (3, .bool p83), (8, .pointer (some ⟨g84, 0, none⟩)), (9, .pointer (some ⟨g85, 0, none⟩)), (14, .slice A78 p77.length c79), (15, .int .i64 (p77.length : Int)), (16, .int .i64 x86)] ∧ Ms = ([(g84, .cells #[.int .i64 0, str ([] : List UInt8), .int .i64 0] 31 (0, 0))] :: [(g85, .cells #[.int .i64 x87, str x88, .int .i64 x89] 31 (0, 0))] :: Fs) ∧ impl_look_l0 k90 x86 x87 x88 x89 p77 p81 p82 p83 = some r ∧ ImmLe I0 I ∧ k90 ≤ k ∧ Rd k_impl_Key I A78 c79 p77) ?_ ?_ k ⟨0, 1, ([] : List UInt8), 0, rfl, rfl, H, hle, Nat.le_refl _, hr80⟩
  · rintro L I Ms ⟨_, _, _, _, rfl, rfl, H, _⟩; exact no_none H
  · clear H hle hr80
    intro k90 ih91 L I Ms h_; obtain ⟨x86, x87, x88, x89, hL_, hM_, H, hle, hk92, hr80⟩ := h_; rw [hL_, hM_]; clear hL_ hM_ L Ms
    rw [impl_look_l0] at H
    refine at_seq ?_
    refine at_reg [] [1, 2, 3, 8, 9, 14, 15, 16, 17] (L2 := [(1, .int .i64 p81), (2, str p82), (3, .bool p83), (8, .pointer (some ⟨g84, 0, none⟩)), (9, .pointer (some ⟨g85, 0, none⟩)), (14, .slice A78 p77.length c79), (15, .int .i64 (p77.length : Int)), (16, .int .i64 x86), (17, .bool (decide (x86 < (p77.length : Int))))]) (obs := []) (by kernel_rfl) ?_ ?_
    · intro w hs; exact trivial
    refine at_thn ?_
    refine at_seq ?_
    by_cases h93 : x86 < (p77.length : Int)
    · rw [if_pos h93] at H
      refine at_cond_t rfl (decide_eq_true h93) ?_
      refine at_skip ?_
      refine at_thn ?_
      refine at_seq ?_
      refine at_block ?_
      refine at_seq ?_
      refine at_ops [0, 1, 2, 3] rfl ?_
      obtain ⟨h94, H⟩ := ite_some H
      obtain ⟨cs96, hz97, hc95⟩ := hr80.elem z_impl_Key x86 h94 h93
      obtain rfl := hz97
      refine at_seg [0, 1] [2, 3] rfl [(1, .agg #[.int .i64 ((rdA z_impl_Key p77 x86).Map), str ((rdA z_impl_Key p77 x86).Keys), str ((rdA z_impl_Key p77 x86).Name)])] [1, 2, 3, 8, 9, 14, 15, 16, 19] (L2 := [(1, .int .i64 p81), (2, str p82), (3, .bool p83), (8, .pointer (some ⟨g84, 0, none⟩)), (9, .pointer (some ⟨g85, 0, none⟩)), (14, .slice A78 p77.length c79), (15, .int .i64 (p77.length : Int)), (16, .int .i64 x86), (19, .agg #[.int .i64 ((rdA z_impl_Key p77 x86).Map), str ((rdA z_impl_Key p77 x86).Keys), str ((rdA z_impl_Key p77 x86).Name)])]) (obs := [fun _ => A78.isSome = true ∧ 0 ≤ x86 ∧ x86 < ((p77.length : Nat) : Int), fun w => CellsAt w ((A78.getD ad0).add (x86.toNat * 3)) [.int .i64 ((rdA z_impl_Key p77 x86).Map), str ((rdA z_impl_Key p77 x86).Keys), str ((rdA z_impl_Key p77 x86).Name)] 0]) (by kernel_rfl) ?_ ?_
      · intro w hs; exact ⟨⟨hr80.ne x86 h94 h93, h94, h93⟩, ⟨hc95 0 _ rfl hs, hc95 1 _ rfl hs, hc95 2 _ rfl hs, trivial⟩⟩
      refine at_eff rfl rfl ?_
      obtain ⟨i_, hi_, hz_, _, _⟩ := info25
      refine eff_alloc rfl rfl hi_ hz_ #[.int .i64 0, str ([] : List UInt8), str ([] : List UInt8)] rfl (fun g98 => ?_)
      refine at_eff rfl rfl ?_
      refine eff_store 0 rfl rfl rfl rfl rfl rfl (.inl (Nat.le_refl _)) rfl (Nat.le_of_ble_eq_true (by kernel_rfl)) rfl ?_
      refine at_end ?_
      refine at_thn ?_
      refine at_seq ?_
      refine at_reg [(1, str ((rdA z_impl_Key p77 x86).Keys))] [1, 2, 3, 8, 9, 11, 12, 14, 15, 16] (L2 := [(1, .int .i64 p81), (2, str p82), (3, .bool p83), (8, .pointer (some ⟨g84, 0, none⟩)), (9, .pointer (some ⟨g85, 0, none⟩)), (11, .pointer (some ⟨g98, 0, none⟩)), (12, .int .i64 (((rdA z_impl_Key p77 x86).Keys).length : Int)), (14, .slice A78 p77.length c79), (15, .int .i64 (p77.length : Int)), (16, .int .i64 x86)]) (obs := [fun w => w.cell? ⟨g98, 1, none⟩ = some (str ((rdA z_impl_Key p77 x86).Keys))]) (by kernel_rfl) ?_ ?_
      · intro w hs; exact hs.var (k := 0) rfl 1 rfl
      refine at_thn ?_
      refine at_block ?_
      refine at_seq ?_
      refine at_reg [(1, .int .i64 ((rdA z_impl_Key p77 x86).Map))] [1, 2, 3, 8, 9, 11, 12, 14, 15, 16, 23] (L2 := [(1, .int .i64 p81), (2, str p82), (3, .bool p83), (8, .pointer (some ⟨g84, 0, none⟩)), (9, .pointer (some ⟨g85, 0, none⟩)), (11, .pointer (some ⟨g98, 0, none⟩)), (12, .int .i64 (((rdA z_impl_Key p77 x86).Keys).length : Int)), (14, .slice A78 p77.length c79), (15, .int .i64 (p77.length : Int)), (16, .int .i64 x86), (23, .bool (((rdA z_impl_Key p77 x86).Map) != p81))]) (obs := [fun w => w.cell? ⟨g98, 0, none⟩ = some (.int .i64 ((rdA z_impl_Key p77 x86).Map))]) (by kernel_rfl) ?_ ?_
      · intro w hs; exact hs.var (k := 0) rfl 0 rfl
      refine at_thn ?_
      by_cases h99 : ((rdA z_impl_Key p77 x86).Map) = p81
      · rw [if_pos h99] at H
        refine at_cond_f rfl (bne_eq_false_iff_eq.2 h99) ?_
        refine at_join (fun L I Ms => ∃ (k202 : Nat), ∃ (x201 : Bool), L = [(1, .int .i64 p81), (2, str p82), (3, .bool p83), (8, .pointer (some ⟨g84, 0, none⟩)), (9, .pointer (some ⟨g85, 0, none⟩)), (11, .pointer (some ⟨g98, 0, none⟩)), (12, .int .i64 (((rdA z_impl_Key p77 x86).Keys).length : Int)), (14, .slice A78 p77.length c79), (15, .int .i64 (p77.length : Int)), (16, .int .i64 x86), (28, .bool x201)] ∧ Ms = ([(g84, .cells #[.int .i64 0, str ([] : List UInt8), .int .i64 0] 31 (0, 0))] :: [(g85, .cells #[.int .i64 x87, str x88, .int .i64 x89] 31 (0, 0))] :: [(g98, .cells #[.int .i64 ((rdA z_impl_Key p77 x86).Map), str ((rdA z_impl_Key p77 x86).Keys), str ((rdA z_impl_Key p77 x86).Name)] 25 (0, 0))] :: Fs) ∧ impl_look_j0 k202 x201 p77 p81 p82 p83 x86 x87 x88 x89 = some r ∧ ImmLe I0 I ∧ k202 ≤ k90 ∧ Rd k_impl_Key I A78 c79 p77) ?_ ?_
        · clear H hle hr80
          intro L I Ms h_; obtain ⟨k202, x201, hL_, hM_, H, hle, hk203, hr80⟩ := h_; rw [hL_, hM_]; clear hL_ hM_ L Ms
          rcases k202 with _ | k202
          · exact (no_none H).elim
          rw [impl_look_j0] at H
          by_cases h204 : x201 = true
          · rw [if_pos h204] at H
            refine at_cond_t rfl (h204) ?_
            refine at_seq ?_
            refine at_ops [0, 1] rfl ?_
            refine at_seg [0] [1] rfl [] [8, 44] (L2 := [(8, .pointer (some ⟨g84, 0, none⟩)), (44, .agg #[.int .i64 2, str ([] : List UInt8), .int .i64 0])]) (obs := []) (by kernel_rfl) ?_ ?_
            · intro w hs; exact trivial
            refine at_eff rfl rfl ?_
            refine eff_store 0 rfl rfl rfl rfl rfl rfl (.inl (Nat.le_refl _)) rfl (Nat.le_of_ble_eq_true (by kernel_rfl)) rfl ?_
            refine at_end ?_
            refine at_thn ?_
            refine at_ret ?_
            refine at_in_ret ?_
            refine at_in_ret ?_
            refine at_then_ret ?_
            refine at_then_ret ?_
            refine at_in_ret ?_
            refine at_then_ret ?_
            obtain rfl := Option.some.inj H
            refine at_drop (k := 1) rfl rfl ?_
            refine at_drop (k := 1) rfl rfl ?_
            refine at_done (vs := [.agg #[.int .i64 2, str ([] : List UInt8), .int .i64 0]]) (obs := [fun w => CellsAt w ⟨g84, 0, none⟩ [.int .i64 2, str ([] : List UInt8), .int .i64 0] 0]) (.inl rfl) [.cell 8 31] [(8, .agg #[.int .i64 2, str ([] : List UInt8), .int .i64 0])] rfl (by kernel_rfl) (fun w hs => cellsV (k := 0) hs rfl _ 0 (Nat.le_of_ble_eq_true (by kernel_rfl)) rfl) (fun w hs => ⟨_, _, [], rfl, ⟨rfl, rfl⟩, hle, (hs.tail (perm_at (k := 0) rfl))⟩)
          · rw [if_neg h204] at H
            refine at_cond_f rfl (ff_of h204) ?_
            refine at_join (fun L I Ms => ∃ (k307 : Nat), ∃ (x306 : Bool), L = [(1, .int .i64 p81), (2, str p82), (3, .bool p83), (8, .pointer (some ⟨g84, 0, none⟩)), (9, .pointer (some ⟨g85, 0, none⟩)), (11, .pointer (some ⟨g98, 0, none⟩)), (12, .int .i64 (((rdA z_impl_Key p77 x86).Keys).length : Int)), (14, .slice A78 p77.length c79), (15, .int .i64 (p77.length : Int)), (16, .int .i64 x86), (45, .bool x306)] ∧ Ms = ([(g84, .cells #[.int .i64 0, str ([] : List UInt8), .int .i64 0] 31 (0, 0))] :: [(g85, .cells #[.int .i64 x87, str x88, .int .i64 x89] 31 (0, 0))] :: [(g98, .cells #[.int .i64 ((rdA z_impl_Key p77 x86).Map), str ((rdA z_impl_Key p77 x86).Keys), str ((rdA z_impl_Key p77 x86).Name)] 25 (0, 0))] :: Fs) ∧ impl_look_j1 k307 x306 p77 p81 p82 p83 x86 x87 x88 x89 = some r ∧ ImmLe I0 I ∧ k307 ≤ k202 ∧ Rd k_impl_Key I A78 c79 p77) ?_ ?_
            · clear H hle hr80
              intro L I Ms h_; obtain ⟨k307, x306, hL_, hM_, H, hle, hk308, hr80⟩ := h_; rw [hL_, hM_]; clear hL_ hM_ L Ms
              rcases k307 with _ | k307
              · exact (no_none H).elim
              rw [impl_look_j1] at H
              by_cases h309 : x306 = true
              · rw [if_pos h309] at H
                refine at_cond_t rfl (h309) ?_
                refine at_ops [0, 1, 2, 3, 4] rfl ?_
                refine at_seg [0, 1, 2, 3] [4] rfl [(1, str ((rdA z_impl_Key p77 x86).Name))] [1, 2, 3, 8, 9, 14, 15, 16, 59] (L2 := [(1, .int .i64 p81), (2, str p82), (3, .bool p83), (8, .pointer (some ⟨g84, 0, none⟩)), (9, .pointer (some ⟨g85, 0, none⟩)), (14, .slice A78 p77.length c79), (15, .int .i64 (p77.length : Int)), (16, .int .i64 x86), (59, .agg #[.int .i64 3, str ((rdA z_impl_Key p77 x86).Name), .int .i64 (((rdA z_impl_Key p77 x86).Keys).length : Int)])]) (obs := [fun w => w.cell? ⟨g98, 2, none⟩ = some (str ((rdA z_impl_Key p77 x86).Name))]) (by kernel_rfl) ?_ ?_
                · intro w hs; exact hs.var (k := 2) rfl 2 rfl
                refine at_eff rfl rfl ?_
                refine eff_store 1 rfl rfl rfl rfl rfl rfl (.inl (Nat.le_refl _)) rfl (Nat.le_of_ble_eq_true (by kernel_rfl)) rfl ?_
                refine at_end ?_
                refine at_in_norm ?_
                refine at_in_norm ?_
                refine at_thn ?_
                refine at_reg [] [1, 2, 3, 8, 9, 14, 15, 16] (L2 := [(1, .int .i64 p81), (2, str p82), (3, .bool p83), (8, .pointer (some ⟨g84, 0, none⟩)), (9, .pointer (some ⟨g85, 0, none⟩)), (14, .slice A78 p77.length c79), (15, .int .i64 (p77.length : Int)), (16, .int .i64 (IntKind.i64.wrap (x86 + 1)))]) (obs := []) (by kernel_rfl) ?_ ?_
                · intro w hs; exact trivial
                refine at_thn ?_
                refine at_drop (k := 2) rfl rfl ?_
                refine at_keep [1, 2, 3, 8, 9, 14, 15, 16] (L2 := [(1, .int .i64 p81), (2, str p82), (3, .bool p83), (8, .pointer (some ⟨g84, 0, none⟩)), (9, .pointer (some ⟨g85, 0, none⟩)), (14, .slice A78 p77.length c79), (15, .int .i64 (p77.length : Int)), (16, .int .i64 (IntKind.i64.wrap (x86 + 1)))]) rfl ?_
                exact ih91 _ (by omega) _ _ _ ⟨IntKind.i64.wrap (x86 + 1), 3, (rdA z_impl_Key p77 x86).Name, (((rdA z_impl_Key p77 x86).Keys).length : Int), rfl, rfl, H, hle, by omega, hr80⟩
              · rw [if_neg h309] at H
                refine at_cond_f rfl (ff_of h309) ?_
                refine at_skip ?_
                refine at_in_norm ?_
                refine at_in_norm ?_
                refine at_thn ?_
                refine at_reg [] [1, 2, 3, 8, 9, 14, 15, 16] (L2 := [(1, .int .i64 p81), (2, str p82), (3, .bool p83), (8, .pointer (some ⟨g84, 0, none⟩)), (9, .pointer (some ⟨g85, 0, none⟩)), (14, .slice A78 p77.length c79), (15, .int .i64 (p77.length : Int)), (16, .int .i64 (IntKind.i64.wrap (x86 + 1)))]) (obs := []) (by kernel_rfl) ?_ ?_
                · intro w hs; exact trivial
                refine at_thn ?_
                refine at_drop (k := 2) rfl rfl ?_
                refine at_keep [1, 2, 3, 8, 9, 14, 15, 16] (L2 := [(1, .int .i64 p81), (2, str p82), (3, .bool p83), (8, .pointer (some ⟨g84, 0, none⟩)), (9, .pointer (some ⟨g85, 0, none⟩)), (14, .slice A78 p77.length c79), (15, .int .i64 (p77.length : Int)), (16, .int .i64 (IntKind.i64.wrap (x86 + 1)))]) rfl ?_
                exact ih91 _ (by omega) _ _ _ ⟨IntKind.i64.wrap (x86 + 1), x87, x88, x89, rfl, rfl, H, hle, by omega, hr80⟩
            · intro Jn205
              refine at_ops [0, 1, 2, 3, 4, 5, 6, 7, 8, 9, 10] rfl ?_
              refine at_seg [0, 1, 2] [3, 4, 5, 6, 7, 8, 9, 10] rfl [(2, str ((rdA z_impl_Key p77 x86).Keys))] [1, 2, 3, 8, 9, 11, 12, 14, 15, 16, 46, 48] (L2 := [(1, .int .i64 p81), (2, str p82), (3, .bool p83), (8, .pointer (some ⟨g84, 0, none⟩)), (9, .pointer (some ⟨g85, 0, none⟩)), (11, .pointer (some ⟨g98, 0, none⟩)), (12, .int .i64 (((rdA z_impl_Key p77 x86).Keys).length : Int)), (14, .slice A78 p77.length c79), (15, .int .i64 (p77.length : Int)), (16, .int .i64 x86), (46, str p82), (48, str ((rdA z_impl_Key p77 x86).Keys))]) (obs := [fun w => w.cell? ⟨g98, 1, none⟩ = some (str ((rdA z_impl_Key p77 x86).Keys))]) (by kernel_rfl) ?_ ?_
              · intro w hs; exact hs.var (k := 2) rfl 1 rfl
              refine at_eff rfl rfl ?_
              obtain ⟨b5, H310, H⟩ := bind_some H
              have hm_ := strings_HasPrefix.calls (I0 := I) H310
              refine eff_call rfl rfl ok39 rfl rfl (show Meets Try.prog 39 ([str p82, str ((rdA z_impl_Key p77 x86).Keys)] : List Value).toArray _ [] _ from hm_) (Mr := ([(g84, .cells #[.int .i64 0, str ([] : List UInt8), .int .i64 0] 31 (0, 0))] :: [(g85, .cells #[.int .i64 x87, str x88, .int .i64 x89] 31 (0, 0))] :: [(g98, .cells #[.int .i64 ((rdA z_impl_Key p77 x86).Map), str ((rdA z_impl_Key p77 x86).Keys), str ((rdA z_impl_Key p77 x86).Name)] 25 (0, 0))] :: Fs)) (List.Perm.refl _) (fun v311 J312 M313 hq314 hJ315 => ?_)
              replace hle := hle.trans hJ315
              replace hr80 := hr80.mono hJ315
              obtain ⟨rfl, rfl⟩ := hq314
              by_cases h316 : b5 = true
              · rw [if_pos h316] at H
                refine at_seg [4, 5, 6, 7, 8, 9, 10] [] rfl [(4, .bool true), (7, .int .i64 x89)] [1, 2, 3, 8, 9, 11, 12, 14, 15, 16, 45] (L2 := [(1, .int .i64 p81), (2, str p82), (3, .bool p83), (8, .pointer (some ⟨g84, 0, none⟩)), (9, .pointer (some ⟨g85, 0, none⟩)), (11, .pointer (some ⟨g98, 0, none⟩)), (12, .int .i64 (((rdA z_impl_Key p77 x86).Keys).length : Int)), (14, .slice A78 p77.length c79), (15, .int .i64 (p77.length : Int)), (16, .int .i64 x86), (45, .bool (decide ((((rdA z_impl_Key p77 x86).Keys).length : Int) > x89)))]) (obs := [fun _ => (.bool b5 : Value) = .bool true, fun w => w.cell? ⟨g85, 2, none⟩ = some (.int .i64 x89)]) (by kernel_rfl) ?_ ?_
                · intro w hs; exact ⟨congrArg Value.bool (h316), hs.var (k := 1) rfl 2 rfl⟩
                refine at_end ?_
                refine at_thn ?_
                refine at_keep [1, 2, 3, 8, 9, 11, 12, 14, 15, 16, 45] (L2 := [(1, .int .i64 p81), (2, str p82), (3, .bool p83), (8, .pointer (some ⟨g84, 0, none⟩)), (9, .pointer (some ⟨g85, 0, none⟩)), (11, .pointer (some ⟨g98, 0, none⟩)), (12, .int .i64 (((rdA z_impl_Key p77 x86).Keys).length : Int)), (14, .slice A78 p77.length c79), (15, .int .i64 (p77.length : Int)), (16, .int .i64 x86), (45, .bool (decide ((((rdA z_impl_Key p77 x86).Keys).length : Int) > x89)))]) rfl ?_
                exact Jn205 _ _ _ ⟨_, decide ((((rdA z_impl_Key p77 x86).Keys).length : Int) > x89), rfl, rfl, H, hle, by omega, hr80⟩
              · rw [if_neg h316] at H
                refine at_seg [4, 5, 6, 7, 8, 9, 10] [] rfl [(4, .bool false)] [1, 2, 3, 8, 9, 11, 12, 14, 15, 16, 45] (L2 := [(1, .int .i64 p81), (2, str p82), (3, .bool p83), (8, .pointer (some ⟨g84, 0, none⟩)), (9, .pointer (some ⟨g85, 0, none⟩)), (11, .pointer (some ⟨g98, 0, none⟩)), (12, .int .i64 (((rdA z_impl_Key p77 x86).Keys).length : Int)), (14, .slice A78 p77.length c79), (15, .int .i64 (p77.length : Int)), (16, .int .i64 x86), (45, .bool false)]) (obs := [fun _ => (.bool b5 : Value) = .bool false]) (by kernel_rfl) ?_ ?_
                · intro w hs; exact congrArg Value.bool (ff_of h316)
                refine at_end ?_
                refine at_thn ?_
                refine at_keep [1, 2, 3, 8, 9, 11, 12, 14, 15, 16, 45] (L2 := [(1, .int .i64 p81), (2, str p82), (3, .bool p83), (8, .pointer (some ⟨g84, 0, none⟩)), (9, .pointer (some ⟨g85, 0, none⟩)), (11, .pointer (some ⟨g98, 0, none⟩)), (12, .int .i64 (((rdA z_impl_Key p77 x86).Keys).length : Int)), (14, .slice A78 p77.length c79), (15, .int .i64 (p77.length : Int)), (16, .int .i64 x86), (45, .bool false)]) rfl ?_
                exact Jn205 _ _ _ ⟨_, false, rfl, rfl, H, hle, by omega, hr80⟩
        · intro Jn100
          refine at_ops [0, 1, 2, 3, 4, 5, 6, 7, 8, 9, 10, 11, 12, 13, 14, 15] rfl ?_
          by_cases h317 : p83 = true
          · rw [if_pos h317] at H
            by_cases h318 : (((rdA z_impl_Key p77 x86).Keys).length : Int) > (p82.length : Int)
            · rw [if_pos h318] at H
              refine at_seg [0, 1, 2, 3, 4, 5, 6, 7, 8, 9, 10, 11, 12] [13, 14, 15] rfl [(1, .bool true), (3, str ((rdA z_impl_Key p77 x86).Keys)), (9, .bool true), (11, str ((rdA z_impl_Key p77 x86).Keys))] [1, 2, 3, 8, 9, 11, 12, 14, 15, 16, 38, 40, 41] (L2 := [(1, .int .i64 p81), (2, str p82), (3, .bool p83), (8, .pointer (some ⟨g84, 0, none⟩)), (9, .pointer (some ⟨g85, 0, none⟩)), (11, .pointer (some ⟨g98, 0, none⟩)), (12, .int .i64 (((rdA z_impl_Key p77 x86).Keys).length : Int)), (14, .slice A78 p77.length c79), (15, .int .i64 (p77.length : Int)), (16, .int .i64 x86), (38, .bool true), (40, str ((rdA z_impl_Key p77 x86).Keys)), (41, str p82)]) (obs := [fun _ => (.bool p83 : Value) = .bool true, fun w => w.cell? ⟨g98, 1, none⟩ = some (str ((rdA z_impl_Key p77 x86).Keys)), fun _ => (.bool (decide ((((rdA z_impl_Key p77 x86).Keys).length : Int) > (p82.length : Int))) : Value) = .bool true, fun w => w.cell? ⟨g98, 1, none⟩ = some (str ((rdA z_impl_Key p77 x86).Keys))]) (by kernel_rfl) ?_ ?_
              · intro w hs; exact ⟨congrArg Value.bool (h317), hs.var (k := 0) rfl 1 rfl, congrArg Value.bool (decide_eq_true h318), hs.var (k := 0) rfl 1 rfl⟩
              refine at_eff rfl rfl ?_
              obtain ⟨b6, H319, H⟩ := bind_some H
              have hm_ := strings_HasPrefix.calls (I0 := I) H319
              refine eff_call rfl rfl ok39 rfl rfl (show Meets Try.prog 39 ([str ((rdA z_impl_Key p77 x86).Keys), str p82] : List Value).toArray _ [] _ from hm_) (Mr := ([(g98, .cells #[.int .i64 ((rdA z_impl_Key p77 x86).Map), str ((rdA z_impl_Key p77 x86).Keys), str ((rdA z_impl_Key p77 x86).Name)] 25 (0, 0))] :: [(g84, .cells #[.int .i64 0, str ([] : List UInt8), .int .i64 0] 31 (0, 0))] :: [(g85, .cells #[.int .i64 x87, str x88, .int .i64 x89] 31 (0, 0))] :: Fs)) (List.Perm.refl _) (fun v320 J321 M322 hq323 hJ324 => ?_)
              replace hle := hle.trans hJ324
              replace hr80 := hr80.mono hJ324
              obtain ⟨rfl, rfl⟩ := hq323
              refine at_seg [14, 15] [] rfl [] [1, 2, 3, 8, 9, 11, 12, 14, 15, 16, 28] (L2 := [(1, .int .i64 p81), (2, str p82), (3, .bool p83), (8, .pointer (some ⟨g84, 0, none⟩)), (9, .pointer (some ⟨g85, 0, none⟩)), (11, .pointer (some ⟨g98, 0, none⟩)), (12, .int .i64 (((rdA z_impl_Key p77 x86).Keys).length : Int)), (14, .slice A78 p77.length c79), (15, .int .i64 (p77.length : Int)), (16, .int .i64 x86), (28, .bool b6)]) (obs := []) (by kernel_rfl) ?_ ?_
              · intro w hs; exact trivial
              refine at_end ?_
              refine at_thn ?_
              refine at_perm ((perm_at (k := 1) rfl).trans (((perm_at (k := 1) rfl).trans ((List.Perm.refl _).cons _)).cons _)) ?_
              refine at_keep [1, 2, 3, 8, 9, 11, 12, 14, 15, 16, 28] (L2 := [(1, .int .i64 p81), (2, str p82), (3, .bool p83), (8, .pointer (some ⟨g84, 0, none⟩)), (9, .pointer (some ⟨g85, 0, none⟩)), (11, .pointer (some ⟨g98, 0, none⟩)), (12, .int .i64 (((rdA z_impl_Key p77 x86).Keys).length : Int)), (14, .slice A78 p77.length c79), (15, .int .i64 (p77.length : Int)), (16, .int .i64 x86), (28, .bool b6)]) rfl ?_
              exact Jn100 _ _ _ ⟨_, b6, rfl, rfl, H, hle, by omega, hr80⟩
            · rw [if_neg h318] at H
              refine at_seg [0, 1, 2, 3, 4, 5, 6, 7, 8, 9, 10, 11, 12] [13, 14, 15] rfl [(1, .bool true), (3, str ((rdA z_impl_Key p77 x86).Keys)), (9, .bool false)] [1, 2, 3, 8, 9, 11, 12, 14, 15, 16, 38, 40, 41] (L2 := [(1, .int .i64 p81), (2, str p82), (3, .bool p83), (8, .pointer (some ⟨g84, 0, none⟩)), (9, .pointer (some ⟨g85, 0, none⟩)), (11, .pointer (some ⟨g98, 0, none⟩)), (12, .int .i64 (((rdA z_impl_Key p77 x86).Keys).length : Int)), (14, .slice A78 p77.length c79), (15, .int .i64 (p77.length : Int)), (16, .int .i64 x86), (38, .bool false), (40, undef), (41, undef)]) (obs := [fun _ => (.bool p83 : Value) = .bool true, fun w => w.cell? ⟨g98, 1, none⟩ = some (str ((rdA z_impl_Key p77 x86).Keys)), fun _ => (.bool (decide ((((rdA z_impl_Key p77 x86).Keys).length : Int) > (p82.length : Int))) : Value) = .bool false]) (by kernel_rfl) ?_ ?_
              · intro w hs; exact ⟨congrArg Value.bool (h317), hs.var (k := 0) rfl 1 rfl, congrArg Value.bool (decide_eq_false h318)⟩
              refine at_seg [13, 14, 15] [] rfl [] [1, 2, 3, 8, 9, 11, 12, 14, 15, 16, 28] (L2 := [(1, .int .i64 p81), (2, str p82), (3, .bool p83), (8, .pointer (some ⟨g84, 0, none⟩)), (9, .pointer (some ⟨g85, 0, none⟩)), (11, .pointer (some ⟨g98, 0, none⟩)), (12, .int .i64 (((rdA z_impl_Key p77 x86).Keys).length : Int)), (14, .slice A78 p77.length c79), (15, .int .i64 (p77.length : Int)), (16, .int .i64 x86), (28, .bool false)]) (obs := []) (by kernel_rfl) ?_ ?_
              · intro w hs; exact trivial
              refine at_end ?_
              refine at_thn ?_
              refine at_perm ((perm_at (k := 1) rfl).trans (((perm_at (k := 1) rfl).trans ((List.Perm.refl _).cons _)).cons _)) ?_
              refine at_keep [1, 2, 3, 8, 9, 11, 12, 14, 15, 16, 28] (L2 := [(1, .int .i64 p81), (2, str p82), (3, .bool p83), (8, .pointer (some ⟨g84, 0, none⟩)), (9, .pointer (some ⟨g85, 0, none⟩)), (11, .pointer (some ⟨g98, 0, none⟩)), (12, .int .i64 (((rdA z_impl_Key p77 x86).Keys).length : Int)), (14, .slice A78 p77.length c79), (15, .int .i64 (p77.length : Int)), (16, .int .i64 x86), (28, .bool false)]) rfl ?_
              exact Jn100 _ _ _ ⟨_, false, rfl, rfl, H, hle, by omega, hr80⟩
          · rw [if_neg h317] at H
            refine at_seg [0, 1, 2, 3, 4, 5, 6, 7, 8, 9, 10, 11, 12] [13, 14, 15] rfl [(1, .bool false)] [1, 2, 3, 8, 9, 11, 12, 14, 15, 16, 38, 40, 41] (L2 := [(1, .int .i64 p81), (2, str p82), (3, .bool p83), (8, .pointer (some ⟨g84, 0, none⟩)), (9, .pointer (some ⟨g85, 0, none⟩)), (11, .pointer (some ⟨g98, 0, none⟩)), (12, .int .i64 (((rdA z_impl_Key p77 x86).Keys).length : Int)), (14, .slice A78 p77.length c79), (15, .int .i64 (p77.length : Int)), (16, .int .i64 x86), (38, .bool false), (40, undef), (41, undef)]) (obs := [fun _ => (.bool p83 : Value) = .bool false]) (by kernel_rfl) ?_ ?_
            · intro w hs; exact congrArg Value.bool (ff_of h317)
            refine at_seg [13, 14, 15] [] rfl [] [1, 2, 3, 8, 9, 11, 12, 14, 15, 16, 28] (L2 := [(1, .int .i64 p81), (2, str p82), (3, .bool p83), (8, .pointer (some ⟨g84, 0, none⟩)), (9, .pointer (some ⟨g85, 0, none⟩)), (11, .pointer (some ⟨g98, 0, none⟩)), (12, .int .i64 (((rdA z_impl_Key p77 x86).Keys).length : Int)), (14, .slice A78 p77.length c79), (15, .int .i64 (p77.length : Int)), (16, .int .i64 x86), (28, .bool false)]) (obs := []) (by kernel_rfl) ?_ ?_
            · intro w hs; exact trivial
            refine at_end ?_
            refine at_thn ?_
            refine at_perm ((perm_at (k := 1) rfl).trans (((perm_at (k := 1) rfl).trans ((List.Perm.refl _).cons _)).cons _)) ?_
            refine at_keep [1, 2, 3, 8, 9, 11, 12, 14, 15, 16, 28] (L2 := [(1, .int .i64 p81), (2, str p82), (3, .bool p83), (8, .pointer (some ⟨g84, 0, none⟩)), (9, .pointer (some ⟨g85, 0, none⟩)), (11, .pointer (some ⟨g98, 0, none⟩)), (12, .int .i64 (((rdA z_impl_Key p77 x86).Keys).length : Int)), (14, .slice A78 p77.length c79), (15, .int .i64 (p77.length : Int)), (16, .int .i64 x86), (28, .bool false)]) rfl ?_
            exact Jn100 _ _ _ ⟨_, false, rfl, rfl, H, hle, by omega, hr80⟩
      · rw [if_neg h99] at H
        refine at_cond_t rfl (bne_iff_ne.2 h99) ?_
        refine at_skip ?_
        refine at_in_norm ?_
        refine at_in_norm ?_
        refine at_thn ?_
        refine at_reg [] [1, 2, 3, 8, 9, 14, 15, 16] (L2 := [(1, .int .i64 p81), (2, str p82), (3, .bool p83), (8, .pointer (some ⟨g84, 0, none⟩)), (9, .pointer (some ⟨g85, 0, none⟩)), (14, .slice A78 p77.length c79), (15, .int .i64 (p77.length : Int)), (16, .int .i64 (IntKind.i64.wrap (x86 + 1)))]) (obs := []) (by kernel_rfl) ?_ ?_
        · intro w hs; exact trivial
        refine at_thn ?_
        refine at_drop (k := 0) rfl rfl ?_
        refine at_keep [1, 2, 3, 8, 9, 14, 15, 16] (L2 := [(1, .int .i64 p81), (2, str p82), (3, .bool p83), (8, .pointer (some ⟨g84, 0, none⟩)), (9, .pointer (some ⟨g85, 0, none⟩)), (14, .slice A78 p77.length c79), (15, .int .i64 (p77.length : Int)), (16, .int .i64 (IntKind.i64.wrap (x86 + 1)))]) rfl ?_
        exact ih91 _ (by omega) _ _ _ ⟨IntKind.i64.wrap (x86 + 1), x87, x88, x89, rfl, rfl, H, hle, by omega, hr80⟩
    · rw [if_neg h93] at H
      refine at_cond_f rfl (decide_eq_false h93) ?_
      refine at_exit ?_
      refine at_then_exit ?_
      refine at_then_exit ?_
      refine at_in_hit ?_
      refine at_thn ?_
      refine at_seq ?_
      refine at_ops [0, 1] rfl ?_
      refine at_seg [0] [1] rfl [(0, .agg #[.int .i64 x87, str x88, .int .i64 x89])] [8, 61] (L2 := [(8, .pointer (some ⟨g84, 0, none⟩)), (61, .agg #[.int .i64 x87, str x88, .int .i64 x89])]) (obs := [fun w => CellsAt w ⟨g85, 0, none⟩ [.int .i64 x87, str x88, .int .i64 x89] 0]) (by kernel_rfl) ?_ ?_
      · intro w hs; exact cellsV (k := 1) hs rfl _ 0 (Nat.le_of_ble_eq_true (by kernel_rfl)) rfl
      refine at_eff rfl rfl ?_
      refine eff_store 0 rfl rfl rfl rfl rfl rfl (.inl (Nat.le_refl _)) rfl (Nat.le_of_ble_eq_true (by kernel_rfl)) rfl ?_
      refine at_end ?_
      refine at_thn ?_
      refine at_ret ?_
      obtain rfl := Option.some.inj H
      refine at_drop (k := 1) rfl rfl ?_
      refine at_done (vs := [.agg #[.int .i64 x87, str x88, .int .i64 x89]]) (obs := [fun w => CellsAt w ⟨g84, 0, none⟩ [.int .i64 x87, str x88, .int .i64 x89] 0]) (.inl rfl) [.cell 8 31] [(8, .agg #[.int .i64 x87, str x88, .int .i64 x89])] rfl (by kernel_rfl) (fun w hs => cellsV (k := 0) hs rfl _ 0 (Nat.le_of_ble_eq_true (by kernel_rfl)) rfl) (fun w hs => ⟨_, _, [], rfl, ⟨rfl, rfl⟩, hle, (hs.tail (perm_at (k := 0) rfl))⟩)

/-! ### loop.example/g00146/impl.KeyLook: function 8 -/
mutual
def impl_KeyLook_j1 : Nat → Bool → (List T_impl_Key) → Int → (List UInt8) → Option T_impl_KeyOut
  | 0, _, _, _, _ => none
  | k + 1, x286, p69, p73, p74 => if x286 = true then (some (⟨0, ([] : List UInt8), 0⟩ : T_impl_KeyOut)) else (impl_KeyLook_j0 k p69 p73 p74)
def impl_KeyLook_j0 : Nat → (List T_impl_Key) → Int → (List UInt8) → Option T_impl_KeyOut
  | 0, _, _, _ => none
  | k + 1, p69, p73, p74 => (impl_look k p69 p73 p74 true).bind fun b5 => (some b5)
end
def impl_KeyLook (k : Nat) (p69 : List T_impl_Key) (p73 : Int) (p74 : List UInt8) : Option T_impl_KeyOut := (impl_isMany (p69.length : Int)).bind fun b6 => (if b6 = true then (impl_KeyLook_j1 k true p69 p73 p74) else ((impl_isLong k ([p74] : List (List UInt8))).bind fun b7 => (if b7 = true then (impl_KeyLook_j1 k true p69 p73 p74) else ((impl_KeysRight k p69).bind fun b8 => (if b8 = true then (impl_KeyLook_j1 k (p74 == ([] : List UInt8)) p69 p73 p74) else (impl_KeyLook_j1 k true p69 p73 p74))))))
set_option maxHeartbeats 4000000 in
set_option maxRecDepth 100000 in
theorem impl_KeyLook.calls {k : Nat} {p69 : List T_impl_Key} {p73 : Int} {p74 : List UInt8} {r : T_impl_KeyOut} {I0 : Imm} {A70 : Option Addr} {c71 : Nat} (H : impl_KeyLook k p69 p73 p74 = some r) (hr72 : Rd k_impl_Key I0 A70 c71 p69) :
    Meets Try.prog 8 ([.slice A70 p69.length c71, .int .i64 p73, str p74] : List Value).toArray I0 [] (fun v J M => v = .agg #[.int .i64 r.Kind, str r.Name, .int .i64 r.Used] ∧ M = []) := by
  have hle := ImmLe.refl I0
  unfold impl_KeyLook at H
  refine fn_intro (fn := Try.f8) 29 Try.func8 rfl rfl rfl (fun E Fs => ?_)
  refine at_seq ?_
  refine at_ops [0] rfl ?_
  refine at_eff rfl rfl ?_
  obtain ⟨i_, hi_, hz_, _, _⟩ := info31
  refine eff_alloc rfl rfl hi_ hz_ #[.int .i64 0, str ([] : List UInt8), .int .i64 0] rfl (fun g75 => ?_)
  refine at_end ?_
  refine at_thn ?_
  refine at_join (fun L I Ms => ∃ (k177 : Nat), L = [(0, .slice A70 p69.length c71), (1, .int .i64 p73), (2, str p74), (6, .pointer (some ⟨g75, 0, none⟩))] ∧ Ms = ([(g75, .cells #[.int .i64 0, str ([] : List UInt8), .int .i64 0] 31 (0, 0))] :: Fs) ∧ impl_KeyLook_j0 k177 p69 p73 p74 = some r ∧ ImmLe I0 I ∧ k177 ≤ k ∧ Rd k_impl_Key I A70 c71 p69) ?_ ?_
  · clear H hle hr72
    intro L I Ms h_; obtain ⟨k177, hL_, hM_, H, hle, hk178, hr72⟩ := h_; rw [hL_, hM_]; clear hL_ hM_ L Ms
    rcases k177 with _ | k177
    · exact (no_none H).elim
    rw [impl_KeyLook_j0] at H
    refine at_seq ?_
    refine at_ops [0, 1, 2, 3, 4] rfl ?_
    refine at_seg [0, 1, 2] [3, 4] rfl [] [6, 25, 26, 27] (L2 := [(6, .pointer (some ⟨g75, 0, none⟩)), (25, .slice A70 p69.length c71), (26, .int .i64 p73), (27, str p74)]) (obs := []) (by kernel_rfl) ?_ ?_
    · intro w hs; exact trivial
    refine at_eff rfl rfl ?_
    obtain ⟨b5, H179, H⟩ := bind_some H
    have hm_ := impl_look.calls (I0 := I) H179 hr72
    refine eff_call rfl rfl ok23 rfl rfl (show Meets Try.prog 23 ([.slice A70 p69.length c71, .int .i64 p73, str p74, .bool true] : List Value).toArray _ [] _ from hm_) (Mr := ([(g75, .cells #[.int .i64 0, str ([] : List UInt8), .int .i64 0] 31 (0, 0))] :: Fs)) (List.Perm.refl _) (fun v180 J181 M182 hq183 hJ184 => ?_)
    replace hle := hle.trans hJ184
    replace hr72 := hr72.mono hJ184
    obtain ⟨rfl, rfl⟩ := hq183
    refine at_eff rfl rfl ?_
    refine eff_store 0 rfl rfl rfl rfl rfl rfl (.inl (Nat.le_refl _)) rfl (Nat.le_of_ble_eq_true (by kernel_rfl)) rfl ?_
    refine at_end ?_
    refine at_thn ?_
    refine at_ret ?_
    obtain rfl := Option.some.inj H
    refine at_done (vs := [.agg #[.int .i64 b5.Kind, str b5.Name, .int .i64 b5.Used]]) (obs := [fun w => CellsAt w ⟨g75, 0, none⟩ [.int .i64 b5.Kind, str b5.Name, .int .i64 b5.Used] 0]) (.inl rfl) [.cell 6 31] [(6, .agg #[.int .i64 b5.Kind, str b5.Name, .int .i64 b5.Used])] rfl (by kernel_rfl) (fun w hs => cellsV (k := 0) hs rfl _ 0 (Nat.le_of_ble_eq_true (by kernel_rfl)) rfl) (fun w hs => ⟨_, _, [], rfl, ⟨rfl, rfl⟩, hle, (hs.tail (perm_at (k := 0) rfl))⟩)
  · intro Jn76
    refine at_join (fun L I Ms => ∃ (k287 : Nat), ∃ (x286 : Bool), L = [(0, .slice A70 p69.length c71), (1, .int .i64 p73), (2, str p74), (6, .pointer (some ⟨g75, 0, none⟩)), (23, .bool x286)] ∧ Ms = ([(g75, .cells #[.int .i64 0, str ([] : List UInt8), .int .i64 0] 31 (0, 0))] :: Fs) ∧ impl_KeyLook_j1 k287 x286 p69 p73 p74 = some r ∧ ImmLe I0 I ∧ k287 ≤ k ∧ Rd k_impl_Key I A70 c71 p69) ?_ ?_
    · clear H hle hr72
      intro L I Ms h_; obtain ⟨k287, x286, hL_, hM_, H, hle, hk288, hr72⟩ := h_; rw [hL_, hM_]; clear hL_ hM_ L Ms
      rcases k287 with _ | k287
      · exact (no_none H).elim
      rw [impl_KeyLook_j1] at H
      by_cases h289 : x286 = true
      · rw [if_pos h289] at H
        refine at_cond_t rfl (h289) ?_
        refine at_seq ?_
        refine at_ops [0, 1] rfl ?_
        refine at_seg [0] [1] rfl [] [6, 24] (L2 := [(6, .pointer (some ⟨g75, 0, none⟩)), (24, .agg #[.int .i64 0, str ([] : List UInt8), .int .i64 0])]) (obs := []) (by kernel_rfl) ?_ ?_
        · intro w hs; exact trivial
        refine at_eff rfl rfl ?_
        refine eff_store 0 rfl rfl rfl rfl rfl rfl (.inl (Nat.le_refl _)) rfl (Nat.le_of_ble_eq_true (by kernel_rfl)) rfl ?_
        refine at_end ?_
        refine at_thn ?_
        refine at_ret ?_
        refine at_then_ret ?_
        obtain rfl := Option.some.inj H
        refine at_done (vs := [.agg #[.int .i64 0, str ([] : List UInt8), .int .i64 0]]) (obs := [fun w => CellsAt w ⟨g75, 0, none⟩ [.int .i64 0, str ([] : List UInt8), .int .i64 0] 0]) (.inl rfl) [.cell 6 31] [(6, .agg #[.int .i64 0, str ([] : List UInt8), .int .i64 0])] rfl (by kernel_rfl) (fun w hs => cellsV (k := 0) hs rfl _ 0 (Nat.le_of_ble_eq_true (by kernel_rfl)) rfl) (fun w hs => ⟨_, _, [], rfl, ⟨rfl, rfl⟩, hle, (hs.tail (perm_at (k := 0) rfl))⟩)
      · rw [if_neg h289] at H
        refine at_cond_f rfl (ff_of h289) ?_
        refine at_skip ?_
        refine at_thn ?_
        refine at_keep [0, 1, 2, 6] (L2 := [(0, .slice A70 p69.length c71), (1, .int .i64 p73), (2, str p74), (6, .pointer (some ⟨g75, 0, none⟩))]) rfl ?_
        exact Jn76 _ _ _ ⟨_, rfl, rfl, H, hle, by omega, hr72⟩
    · intro Jn185
      refine at_ops [0, 1, 2, 3, 4, 5, 6, 7, 8, 9, 10, 11, 12, 13, 14, 15, 16] rfl ?_
      refine at_seg [0, 1] [2, 3, 4, 5, 6, 7, 8, 9, 10, 11, 12, 13, 14, 15, 16] rfl [] [0, 1, 2, 6, 8] (L2 := [(0, .slice A70 p69.length c71), (1, .int .i64 p73), (2, str p74), (6, .pointer (some ⟨g75, 0, none⟩)), (8, .int .i64 (p69.length : Int))]) (obs := []) (by kernel_rfl) ?_ ?_
      · intro w hs; exact trivial
      refine at_eff rfl rfl ?_
      obtain ⟨b6, H290, H⟩ := bind_some H
      have hm_ := impl_isMany.calls (I0 := I0) H290
      refine eff_call rfl rfl ok15 rfl rfl (show Meets Try.prog 15 ([.int .i64 (p69.length : Int)] : List Value).toArray _ [] _ from hm_) (Mr := ([(g75, .cells #[.int .i64 0, str ([] : List UInt8), .int .i64 0] 31 (0, 0))] :: Fs)) (List.Perm.refl _) (fun v291 J292 M293 hq294 hJ295 => ?_)
      replace hle := hle.trans hJ295
      replace hr72 := hr72.mono hJ295
      obtain ⟨rfl, rfl⟩ := hq294
      by_cases h296 : b6 = true
      · rw [if_pos h296] at H
        refine at_seg [3, 4] [5, 6, 7, 8, 9, 10, 11, 12, 13, 14, 15, 16] rfl [(3, .bool true)] [0, 1, 2, 6, 10, 11] (L2 := [(0, .slice A70 p69.length c71), (1, .int .i64 p73), (2, str p74), (6, .pointer (some ⟨g75, 0, none⟩)), (10, .bool true), (11, undef)]) (obs := [fun _ => (.bool b6 : Value) = .bool true]) (by kernel_rfl) ?_ ?_
        · intro w hs; exact congrArg Value.bool (h296)
        refine at_seg [5] [6, 7, 8, 9, 10, 11, 12, 13, 14, 15, 16] rfl [] [0, 1, 2, 6, 10, 12] (L2 := [(0, .slice A70 p69.length c71), (1, .int .i64 p73), (2, str p74), (6, .pointer (some ⟨g75, 0, none⟩)), (10, .bool true), (12, undef)]) (obs := []) (by kernel_rfl) ?_ ?_
        · intro w hs; exact trivial
        refine at_seg [6, 7, 8, 9] [10, 11, 12, 13, 14, 15, 16] rfl [] [0, 1, 2, 6, 15, 16] (L2 := [(0, .slice A70 p69.length c71), (1, .int .i64 p73), (2, str p74), (6, .pointer (some ⟨g75, 0, none⟩)), (15, .bool true), (16, undef)]) (obs := []) (by kernel_rfl) ?_ ?_
        · intro w hs; exact trivial
        refine at_seg [10, 11, 12, 13, 14, 15, 16] [] rfl [] [0, 1, 2, 6, 23] (L2 := [(0, .slice A70 p69.length c71), (1, .int .i64 p73), (2, str p74), (6, .pointer (some ⟨g75, 0, none⟩)), (23, .bool true)]) (obs := []) (by kernel_rfl) ?_ ?_
        · intro w hs; exact trivial
        refine at_end ?_
        refine at_thn ?_
        refine at_keep [0, 1, 2, 6, 23] (L2 := [(0, .slice A70 p69.length c71), (1, .int .i64 p73), (2, str p74), (6, .pointer (some ⟨g75, 0, none⟩)), (23, .bool true)]) rfl ?_
        exact Jn185 _ _ _ ⟨_, true, rfl, rfl, H, hle, by omega, hr72⟩
      · rw [if_neg h296] at H
        refine at_seg [3, 4] [5, 6, 7, 8, 9, 10, 11, 12, 13, 14, 15, 16] rfl [(3, .bool false)] [0, 1, 2, 6, 10, 11] (L2 := [(0, .slice A70 p69.length c71), (1, .int .i64 p73), (2, str p74), (6, .pointer (some ⟨g75, 0, none⟩)), (10, .bool false), (11, str p74)]) (obs := [fun _ => (.bool b6 : Value) = .bool false]) (by kernel_rfl) ?_ ?_
        · intro w hs; exact congrArg Value.bool (ff_of h296)
        refine at_eff rfl rfl ?_
        refine eff_buildSlice (e := 9) (cells := #[str p74]) ([p74] : List (List UInt8)).length rfl rfl rfl (by kernel_rfl) (fun g297 => ?_)
        have ho298 := own_lit (K := Kd.string) (e := 9) (I := J292) (xs := ([p74] : List (List UInt8))) (css := [[str p74]]) (cells := #[str p74]) (b := g297) ⟨rfl, trivial⟩ rfl
        refine at_eff rfl rfl ?_
        obtain ⟨b7, H299, H⟩ := bind_some H
        refine eff_read rfl rfl (rv := .bool b7) (Ms' := ([(g297, .cells #[str p74] 9 (0, 0))] :: [(g75, .cells #[.int .i64 0, str ([] : List UInt8), .int .i64 0] 31 (0, 0))] :: Fs)) ok22 rfl rfl ?_ ?_
        · refine Reads.lend (k := 0) rfl (fun J300 hJ301 hin302 => ?_)
          exact Reads.of_meets (Mr := ([(g75, .cells #[.int .i64 0, str ([] : List UInt8), .int .i64 0] 31 (0, 0))] :: Fs)) (show Meets Try.prog 22 ([.slice (some ⟨g297, 0, none⟩ : Option Addr) ([p74] : List (List UInt8)).length (([p74] : List (List UInt8)).length)] : List Value).toArray J300 [] _ from impl_isLong.calls (I0 := J300) H299 (ho298.rd hJ301 hin302)) (List.Perm.refl _)
        by_cases h303 : b7 = true
        · rw [if_pos h303] at H
          refine at_seg [7, 8, 9] [10, 11, 12, 13, 14, 15, 16] rfl [(8, .bool true)] [0, 1, 2, 6, 15, 16] (L2 := [(0, .slice A70 p69.length c71), (1, .int .i64 p73), (2, str p74), (6, .pointer (some ⟨g75, 0, none⟩)), (15, .bool true), (16, undef)]) (obs := [fun _ => (.bool b7 : Value) = .bool true]) (by kernel_rfl) ?_ ?_
          · intro w hs; exact congrArg Value.bool (h303)
          refine at_seg [10, 11, 12, 13, 14, 15, 16] [] rfl [] [0, 1, 2, 6, 23] (L2 := [(0, .slice A70 p69.length c71), (1, .int .i64 p73), (2, str p74), (6, .pointer (some ⟨g75, 0, none⟩)), (23, .bool true)]) (obs := []) (by kernel_rfl) ?_ ?_
          · intro w hs; exact trivial
          refine at_end ?_
          refine at_thn ?_
          refine at_drop (k := 0) rfl rfl ?_
          refine at_keep [0, 1, 2, 6, 23] (L2 := [(0, .slice A70 p69.length c71), (1, .int .i64 p73), (2, str p74), (6, .pointer (some ⟨g75, 0, none⟩)), (23, .bool true)]) rfl ?_
          exact Jn185 _ _ _ ⟨_, true, rfl, rfl, H, hle, by omega, hr72⟩
        · rw [if_neg h303] at H
          refine at_seg [7, 8, 9] [10, 11, 12, 13, 14, 15, 16] rfl [(8, .bool false)] [0, 1, 2, 6, 15, 16] (L2 := [(0, .slice A70 p69.length c71), (1, .int .i64 p73), (2, str p74), (6, .pointer (some ⟨g75, 0, none⟩)), (15, .bool false), (16, .slice A70 p69.length c71)]) (obs := [fun _ => (.bool b7 : Value) = .bool false]) (by kernel_rfl) ?_ ?_
          · intro w hs; exact congrArg Value.bool (ff_of h303)
          refine at_eff rfl rfl ?_
          obtain ⟨b8, H304, H⟩ := bind_some H
          have hm_ := impl_KeysRight.calls (I0 := J292) H304 hr72
          refine eff_call rfl rfl ok10 rfl rfl (show Meets Try.prog 10 ([.slice A70 p69.length c71] : List Value).toArray _ [] _ from hm_) (Mr := ([(g297, .cells #[str p74] 9 (0, 0))] :: [(g75, .cells #[.int .i64 0, str ([] : List UInt8), .int .i64 0] 31 (0, 0))] :: Fs)) (List.Perm.refl _) (fun v305 J306 M307 hq308 hJ309 => ?_)
          replace hle := hle.trans hJ309
          replace hr72 := hr72.mono hJ309
          obtain ⟨rfl, rfl⟩ := hq308
          by_cases h310 : b8 = true
          · rw [if_pos h310] at H
            refine at_seg [11, 12, 13, 14, 15, 16] [] rfl [(13, .bool false)] [0, 1, 2, 6, 23] (L2 := [(0, .slice A70 p69.length c71), (1, .int .i64 p73), (2, str p74), (6, .pointer (some ⟨g75, 0, none⟩)), (23, .bool (p74 == ([] : List UInt8)))]) (obs := [fun _ => (.bool (!b8) : Value) = .bool false]) (by kernel_rfl) ?_ ?_
            · intro w hs; exact congrArg Value.bool (not_ff (h310))
            refine at_end ?_
            refine at_thn ?_
            refine at_drop (k := 0) rfl rfl ?_
            refine at_keep [0, 1, 2, 6, 23] (L2 := [(0, .slice A70 p69.length c71), (1, .int .i64 p73), (2, str p74), (6, .pointer (some ⟨g75, 0, none⟩)), (23, .bool (p74 == ([] : List UInt8)))]) rfl ?_
            exact Jn185 _ _ _ ⟨_, (p74 == ([] : List UInt8)), rfl, rfl, H, hle, by omega, hr72⟩
          · rw [if_neg h310] at H
            refine at_seg [11, 12, 13, 14, 15, 16] [] rfl [(13, .bool true)] [0, 1, 2, 6, 23] (L2 := [(0, .slice A70 p69.length c71), (1, .int .i64 p73), (2, str p74), (6, .pointer (some ⟨g75, 0, none⟩)), (23, .bool true)]) (obs := [fun _ => (.bool (!b8) : Value) = .bool true]) (by kernel_rfl) ?_ ?_
            · intro w hs; exact congrArg Value.bool (not_tt (ff_of h310))
            refine at_end ?_
            refine at_thn ?_
            refine at_drop (k := 0) rfl rfl ?_
            refine at_keep [0, 1, 2, 6, 23] (L2 := [(0, .slice A70 p69.length c71), (1, .int .i64 p73), (2, str p74), (6, .pointer (some ⟨g75, 0, none⟩)), (23, .bool true)]) rfl ?_
            exact Jn185 _ _ _ ⟨_, true, rfl, rfl, H, hle, by omega, hr72⟩

/-! ### loop.example/g00146/impl.KeyDrop$1: function 25 -/
def impl_KeyDrop_1 (p131 : T_impl_Key) (p133 : Int) (p135 : List UInt8) : Option (Bool × Int × (List UInt8)) := if p131.Map = p133 then (some ((p131.Keys == p135), p133, p135)) else (some (false, p133, p135))
set_option maxHeartbeats 4000000 in
set_option maxRecDepth 100000 in
theorem impl_KeyDrop_1.calls {p131 : T_impl_Key} {p133 : Int} {p135 : List UInt8} {r : Bool × Int × (List UInt8)} {I0 : Imm} {g132 : Nat} {g134 : Nat} (H : impl_KeyDrop_1 p131 p133 p135 = some r) :
    Meets Try.prog 25 ([.agg #[.int .i64 p131.Map, str p131.Keys, str p131.Name], .pointer (some ⟨g132, 0, none⟩), .pointer (some ⟨g134, 0, none⟩)] : List Value).toArray I0 [[(g132, .cells #[.int .i64 p133] 2 (0, 0))], [(g134, .cells #[str p135] 9 (0, 0))]] (fun v J M => v = .bool r.1 ∧ M = [[(g132, .cells #[.int .i64 r.2.1] 2 (0, 0))], [(g134, .cells #[str r.2.2] 9 (0, 0))]]) := by
  have hle := ImmLe.refl I0
  unfold impl_KeyDrop_1 at H
  refine fn_intro (fn := Try.f25) 15 Try.func25 rfl rfl rfl (fun E Fs => ?_)
  refine at_seq ?_
  refine at_ops [0, 1] rfl ?_
  refine at_eff rfl rfl ?_
  refine eff_box rfl rfl rfl #[.int .i64 p131.Map, str p131.Keys, str p131.Name] rfl (fun g136 => ?_)
  refine at_seg [1] [] rfl [] [1, 2, 3] (L2 := [(1, .pointer (some ⟨g132, 0, none⟩)), (2, .pointer (some ⟨g134, 0, none⟩)), (3, .pointer (some ⟨g136, 0, none⟩))]) (obs := []) (by kernel_rfl) ?_ ?_
  · intro w hs; exact trivial
  refine at_end ?_
  refine at_thn ?_
  refine at_seq ?_
  by_cases h137 : p131.Map = p133
  · rw [if_pos h137] at H
    refine at_reg [(1, .int .i64 p131.Map), (2, .int .i64 p133), (4, .bool true), (6, str p131.Keys), (7, str p135)] [4] (L2 := [(4, .bool (p131.Keys == p135))]) (obs := [fun w => w.cell? ⟨g136, 0, none⟩ = some (.int .i64 p131.Map), fun w => w.cell? ⟨g132, 0, none⟩ = some (.int .i64 p133), fun _ => (.bool (p131.Map == p133) : Value) = .bool true, fun w => w.cell? ⟨g136, 1, none⟩ = some (str p131.Keys), fun w => w.cell? ⟨g134, 0, none⟩ = some (str p135)]) (by kernel_rfl) ?_ ?_
    · intro w hs; exact ⟨hs.var (k := 0) rfl 0 rfl, hs.var (k := 1) rfl 0 rfl, congrArg Value.bool (beq_iff_eq.2 h137), hs.var (k := 0) rfl 1 rfl, hs.var (k := 2) rfl 0 rfl⟩
    refine at_thn ?_
    refine at_ret ?_
    obtain rfl := Option.some.inj H
    refine at_drop (k := 0) rfl rfl ?_
    refine at_done (vs := [.bool (p131.Keys == p135)]) (obs := []) (.inl rfl) [.tmp 4] [] rfl (by kernel_rfl) (fun w hs => trivial) (fun w hs => ⟨_, _, [[(g132, .cells #[.int .i64 p133] 2 (0, 0))], [(g134, .cells #[str p135] 9 (0, 0))]], rfl, ⟨rfl, rfl⟩, hle, hs⟩)
  · rw [if_neg h137] at H
    refine at_reg [(1, .int .i64 p131.Map), (2, .int .i64 p133), (4, .bool false)] [4] (L2 := [(4, .bool false)]) (obs := [fun w => w.cell? ⟨g136, 0, none⟩ = some (.int .i64 p131.Map), fun w => w.cell? ⟨g132, 0, none⟩ = some (.int .i64 p133), fun _ => (.bool (p131.Map == p133) : Value) = .bool false]) (by kernel_rfl) ?_ ?_
    · intro w hs; exact ⟨hs.var (k := 0) rfl 0 rfl, hs.var (k := 1) rfl 0 rfl, congrArg Value.bool (beq_eq_false_iff_ne.2 h137)⟩
    refine at_thn ?_
    refine at_ret ?_
    obtain rfl := Option.some.inj H
    refine at_drop (k := 0) rfl rfl ?_
    refine at_done (vs := [.bool false]) (obs := []) (.inl rfl) [.tmp 4] [] rfl (by kernel_rfl) (fun w hs => trivial) (fun w hs => ⟨_, _, [[(g132, .cells #[.int .i64 p133] 2 (0, 0))], [(g134, .cells #[str p135] 9 (0, 0))]], rfl, ⟨rfl, rfl⟩, hle, hs⟩)

/-! ### slices.IndexFunc[[]loop.example/g00146/impl.Key,loop.example/g00146/impl.Key]: function 40 -/
def impl_Key_40_at_25_l0 : Nat → Int → Int → (List UInt8) → (List T_impl_Key) → Option (Int × Int × (List UInt8))
  | 0, _, _, _, _ => none
  | k + 1, x126, x127, x128, p118 => if x126 < (p118.length : Int) then (if 0 ≤ x126 then ((impl_KeyDrop_1 (rdA z_impl_Key p118 x126) x127 x128).bind fun b9 => (if b9.1 = true then (some (x126, b9.2.1, b9.2.2)) else (impl_Key_40_at_25_l0 k (IntKind.i64.wrap (x126 + 1)) b9.2.1 b9.2.2 p118))) else none) else (some ((-1), x127, x128))
def impl_Key_40_at_25 (k : Nat) (p118 : List T_impl_Key) (p123 : Int) (p125 : List UInt8) : Option (Int × Int × (List UInt8)) := impl_Key_40_at_25_l0 k 0 p123 p125 p118
set_option maxHeartbeats 4000000 in
set_option maxRecDepth 100000 in
theorem impl_Key_40_at_25.calls {k : Nat} {p118 : List T_impl_Key} {p123 : Int} {p125 : List UInt8} {r : Int × Int × (List UInt8)} {I0 : Imm} {A119 : Option Addr} {c120 : Nat} {g122 : Nat} {g124 : Nat} (H : impl_Key_40_at_25 k p118 p123 p125 = some r) (hr121 : Rd k_impl_Key I0 A119 c120 p118) :
    Meets Try.prog 40 ([.slice A119 p118.length c120, .func (.func 25) #[] #[.pointer (some ⟨g122, 0, none⟩), .pointer (some ⟨g124, 0, none⟩)]] : List Value).toArray I0 [[(g122, .cells #[.int .i64 p123] 2 (0, 0))], [(g124, .cells #[str p125] 9 (0, 0))]] (fun v J M => v = .int .i64 r.1 ∧ M = [[(g122, .cells #[.int .i64 r.2.1] 2 (0, 0))], [(g124, .cells #[str r.2.2] 9 (0, 0))]]) := by
  have hle := ImmLe.refl I0
  unfold impl_Key_40_at_25 at H
  refine fn_intro (fn := Try.f40) 19 Try.func40 rfl rfl rfl (fun E Fs => ?_)
  refine at_seq ?_
  refine at_reg [] [0, 1] (L2 := [(0, .slice A119 p118.length c120), (1, .func (.func 25) #[] #[.pointer (some ⟨g122, 0, none⟩), .pointer (some ⟨g124, 0, none⟩)])]) (obs := []) (by kernel_rfl) ?_ ?_
  · intro w hs; exact trivial
  refine at_thn ?_
  refine at_seq ?_
  refine at_seq ?_
  refine at_reg [] [0, 1, 7, 8] (L2 := [(0, .slice A119 p118.length c120), (1, .func (.func 25) #[] #[.pointer (some ⟨g122, 0, none⟩), .pointer (some ⟨g124, 0, none⟩)]), (7, .int .i64 (p118.length : Int)), (8, .int .i64 0)]) (obs := []) (by kernel_rfl) ?_ ?_
  · intro w hs; exact trivial
  refine at_thn ?_
  refine at_block ?_
  refine at_keep [0, 1, 7, 8] (L2 := [(0, .slice A119 p118.length c120), (1, .func (.func 25) #[] #[.pointer (some ⟨g122, 0, none⟩), .pointer (some ⟨g124, 0, none⟩)]), (7, .int .i64 (p118.length : Int)), (8, .int .i64 0)]) rfl ?_
  refine at_loop (fun k129 L I Ms => ∃ (x126 : Int) (x127 : Int) (x128 : List UInt8), L = [(0, .slice A119 p118.length c120), (1, .func (.func 25) #[] #[.pointer (some ⟨g122, 0, none⟩), .pointer (some ⟨g124, 0, none⟩)]), (7, .int .i64 (p118.length : Int)), (8, .int .i64 x126)] ∧ Ms = ([(g122, .cells #[.int .i64 x127] 2 (0, 0))] :: [(g124, .cells #[str x128] 9 (0, 0))] :: Fs) ∧ impl_Key_40_at_25_l0 k129 x126 x127 x128 p118 = some r ∧ ImmLe I0 I ∧ k129 ≤ k ∧ Rd k_impl_Key I A119 c120 p118) ?_ ?_ k ⟨0, p123, p125, rfl, rfl, H, hle, Nat.le_refl _, hr121⟩
  · rintro L I Ms ⟨_, _, _, rfl, rfl, H, _⟩; exact no_none H
  · clear H hle hr121
    intro k129 ih130 L I Ms h_; obtain ⟨x126, x127, x128, hL_, hM_, H, hle, hk131, hr121⟩ := h_; rw [hL_, hM_]; clear hL_ hM_ L Ms
    rw [impl_Key_40_at_25_l0] at H
    refine at_seq ?_
    refine at_reg [] [0, 1, 7, 8, 9] (L2 := [(0, .slice A119 p118.length c120), (1, .func (.func 25) #[] #[.pointer (some ⟨g122, 0, none⟩), .pointer (some ⟨g124, 0, none⟩)]), (7, .int .i64 (p118.length : Int)), (8, .int .i64 x126), (9, .bool (decide (x126 < (p118.length : Int))))]) (obs := []) (by kernel_rfl) ?_ ?_
    · intro w hs; exact trivial
    refine at_thn ?_
    refine at_seq ?_
    by_cases h132 : x126 < (p118.length : Int)
    · rw [if_pos h132] at H
      refine at_cond_t rfl (decide_eq_true h132) ?_
      refine at_skip ?_
      refine at_thn ?_
      refine at_seq ?_
      refine at_block ?_
      refine at_seq ?_
      refine at_reg [] [0, 1, 5, 7, 8] (L2 := [(0, .slice A119 p118.length c120), (1, .func (.func 25) #[] #[.pointer (some ⟨g122, 0, none⟩), .pointer (some ⟨g124, 0, none⟩)]), (5, .int .i64 x126), (7, .int .i64 (p118.length : Int)), (8, .int .i64 x126)]) (obs := []) (by kernel_rfl) ?_ ?_
      · intro w hs; exact trivial
      refine at_thn ?_
      refine at_seq ?_
      refine at_ops [0, 1, 2, 3, 4, 5] rfl ?_
      obtain ⟨h133, H⟩ := ite_some H
      obtain ⟨cs135, hz136, hc134⟩ := hr121.elem z_impl_Key x126 h133 h132
      obtain rfl := hz136
      refine at_seg [0, 1, 2, 3, 4] [5] rfl [(4, .agg #[.int .i64 ((rdA z_impl_Key p118 x126).Map), str ((rdA z_impl_Key p118 x126).Keys), str ((rdA z_impl_Key p118 x126).Name)])] [0, 1, 5, 7, 8, 11, 15] (L2 := [(0, .slice A119 p118.length c120), (1, .func (.func 25) #[] #[.pointer (some ⟨g122, 0, none⟩), .pointer (some ⟨g124, 0, none⟩)]), (5, .int .i64 x126), (7, .int .i64 (p118.length : Int)), (8, .int .i64 x126), (11, .func (.func 25) #[] #[.pointer (some ⟨g122, 0, none⟩), .pointer (some ⟨g124, 0, none⟩)]), (15, .agg #[.int .i64 ((rdA z_impl_Key p118 x126).Map), str ((rdA z_impl_Key p118 x126).Keys), str ((rdA z_impl_Key p118 x126).Name)])]) (obs := [fun _ => A119.isSome = true ∧ 0 ≤ x126 ∧ x126 < ((p118.length : Nat) : Int), fun w => CellsAt w ((A119.getD ad0).add (x126.toNat * 3)) [.int .i64 ((rdA z_impl_Key p118 x126).Map), str ((rdA z_impl_Key p118 x126).Keys), str ((rdA z_impl_Key p118 x126).Name)] 0]) (by kernel_rfl) ?_ ?_
      · intro w hs; exact ⟨⟨hr121.ne x126 h133 h132, h133, h132⟩, ⟨hc134 0 _ rfl hs, hc134 1 _ rfl hs, hc134 2 _ rfl hs, trivial⟩⟩
      refine at_eff rfl rfl ?_
      obtain ⟨b9, H137, H⟩ := bind_some H
      refine eff_callv (first := []) (captured := [.pointer (some ⟨g122, 0, none⟩), .pointer (some ⟨g124, 0, none⟩)]) rfl rfl rfl ok25 rfl rfl (impl_KeyDrop_1.calls H137) (Mr := (Fs)) (List.Perm.refl _) (fun v138 J139 M140 hq141 hJ142 => ?_)
      replace hle := hle.trans hJ142
      replace hr121 := hr121.mono hJ142
      obtain ⟨rfl, rfl⟩ := hq141
      refine at_end ?_
      refine at_thn ?_
      by_cases h143 : b9.1 = true
      · rw [if_pos h143] at H
        refine at_cond_t rfl (h143) ?_
        refine at_seq ?_
        refine at_reg [] [4] (L2 := [(4, .int .i64 x126)]) (obs := []) (by kernel_rfl) ?_ ?_
        · intro w hs; exact trivial
        refine at_thn ?_
        refine at_ret ?_
        refine at_in_ret ?_
        refine at_then_ret ?_
        refine at_then_ret ?_
        refine at_in_ret ?_
        refine at_then_ret ?_
        obtain rfl := Option.some.inj H
        refine at_done (vs := [.int .i64 x126]) (obs := []) (.inl rfl) [.tmp 4] [] rfl (by kernel_rfl) (fun w hs => trivial) (fun w hs => ⟨_, _, [[(g122, .cells #[.int .i64 b9.2.1] 2 (0, 0))], [(g124, .cells #[str b9.2.2] 9 (0, 0))]], rfl, ⟨rfl, rfl⟩, hle, hs⟩)
      · rw [if_neg h143] at H
        refine at_cond_f rfl (ff_of h143) ?_
        refine at_skip ?_
        refine at_in_norm ?_
        refine at_thn ?_
        refine at_reg [] [0, 1, 7, 8] (L2 := [(0, .slice A119 p118.length c120), (1, .func (.func 25) #[] #[.pointer (some ⟨g122, 0, none⟩), .pointer (some ⟨g124, 0, none⟩)]), (7, .int .i64 (p118.length : Int)), (8, .int .i64 (IntKind.i64.wrap (x126 + 1)))]) (obs := []) (by kernel_rfl) ?_ ?_
        · intro w hs; exact trivial
        refine at_thn ?_
        refine at_keep [0, 1, 7, 8] (L2 := [(0, .slice A119 p118.length c120), (1, .func (.func 25) #[] #[.pointer (some ⟨g122, 0, none⟩), .pointer (some ⟨g124, 0, none⟩)]), (7, .int .i64 (p118.length : Int)), (8, .int .i64 (IntKind.i64.wrap (x126 + 1)))]) rfl ?_
        exact ih130 _ (by omega) _ _ _ ⟨IntKind.i64.wrap (x126 + 1), b9.2.1, b9.2.2, rfl, rfl, H, hle, by omega, hr121⟩
    · rw [if_neg h132] at H
      refine at_cond_f rfl (decide_eq_false h132) ?_
      refine at_exit ?_
      refine at_then_exit ?_
      refine at_then_exit ?_
      refine at_in_hit ?_
      refine at_thn ?_
      refine at_seq ?_
      refine at_reg [] [4] (L2 := [(4, .int .i64 (-1))]) (obs := []) (by kernel_rfl) ?_ ?_
      · intro w hs; exact trivial
      refine at_thn ?_
      refine at_ret ?_
      obtain rfl := Option.some.inj H
      refine at_done (vs := [.int .i64 (-1)]) (obs := []) (.inl rfl) [.tmp 4] [] rfl (by kernel_rfl) (fun w hs => trivial) (fun w hs => ⟨_, _, [[(g122, .cells #[.int .i64 x127] 2 (0, 0))], [(g124, .cells #[str x128] 9 (0, 0))]], rfl, ⟨rfl, rfl⟩, hle, hs⟩)
end Go.Proofs.Ytloojlhlfhmoeaa
