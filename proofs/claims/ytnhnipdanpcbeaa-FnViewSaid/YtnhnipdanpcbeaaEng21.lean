/- The engine, part 21: what is done with rows whose elements hold rows of the call's own. -/
import Derived.Test.YtnhnipdanpcbeaaEng20
namespace Go.Proofs.Ytnhnipdanpcbeaa.Eng
open Go

def Hole {α β : Type} (D : DK α β) (e : TypeId) (I : Imm) (A : Option Addr) (c : Nat) (xs : List α) (s : Seg) (d : α) (i : Int) (A1 : Option Addr) (c1 : Nat) : Prop :=
  (0 ≤ i ∧ i < (xs.length : Int)) ∧ ∃ hs so sis junk, Own (Kd.raw D.sz) e I A c hs so ∧ s.Perm (so ++ ((sis.set i.toNat []).flatten ++ junk)) ∧ DRel D I xs hs sis ∧ hs[i.toNat]? = some (D.enc (rdA d xs i) A1 c1)
theorem flatten_set_perm : ∀ {sis : List Seg} {j : Nat} {sj s' : Seg}, sis[j]? = some sj → (sis.set j s').flatten.Perm (s' ++ (sis.set j []).flatten)
  | _ :: _, 0, _, _, _ => by simp
  | x :: sis, j + 1, sj, s', h => by
    have ih := flatten_set_perm (sis := sis) (j := j) (s' := s') (by simpa using h)
    simp only [List.set_cons_succ, List.flatten_cons]
    refine (ih.append_left x).trans ?_
    rw [← List.append_assoc, ← List.append_assoc]
    exact List.perm_append_comm.append_right _
theorem set_self {α : Type} : ∀ {l : List α} {j : Nat} {x : α}, l[j]? = some x → l.set j x = l
  | _ :: _, 0, _, h => by simp at h; subst h; rfl
  | _ :: _, j + 1, _, h => by simp only [List.set_cons_succ]; rw [set_self (by simpa using h)]
section
variable {α β : Type} {D : DK α β} {e : TypeId} {I J : Imm} {A A1 A2 : Option Addr} {c c1 c2 : Nat} {xs : List α} {s : Seg} {d : α} {i : Int}
theorem Hole.mono (h : Hole D e I A c xs s d i A1 c1) (hi : ImmLe I J) : Hole D e J A c xs s d i A1 c1 := by
  obtain ⟨hb, hs, so, sis, junk, ho, hp, hr, e3⟩ := h
  exact ⟨hb, hs, so, sis, junk, ho.mono hi, hp, hr.mono hi, e3⟩
/-- A row is laid back at its place. -/
theorem Hole.close (h : Hole D e I A c xs s d i A1 c1) {y : α} {s' : Seg} (henc : D.enc y A1 c1 = D.enc (rdA d xs i) A1 c1) (ho' : Own D.K D.ei I A1 c1 (D.get y) s') : DAt D e I A c (xs.set i.toNat y) (s' ++ s) d i A1 c1 := by
  obtain ⟨⟨b0, b1⟩, hs, so, sis, junk, ho, hp, hr, e3⟩ := h
  have hlt : i.toNat < xs.length := by omega
  have hrd : rdA d (xs.set i.toNat y) i = y := by simp [rdA, hlt]
  obtain ⟨h', sj, g1, g2, g3⟩ := hr.get i.toNat (rdA_some d xs i b0 b1)
  refine ⟨⟨b0, by rw [List.length_set]; exact b1⟩, hs, so, sis.set i.toNat s', junk, s', ho, ?_, ?_, ?_, ?_, ?_⟩
  · refine (hp.append_left s').trans ?_
    have h1 := (flatten_set_perm (s' := s') g2).append_right junk
    refine List.Perm.trans ?_ (h1.symm.append_left so)
    rw [← List.append_assoc s' so, List.append_assoc s' _ junk, ← List.append_assoc so s']
    exact (List.perm_append_comm (l₁ := s') (l₂ := so)).append_right _
  · have := hr.set i.toNat (x := y) (h := D.enc y A1 c1) (s := s') ⟨A1, c1, rfl, ho'⟩
    rwa [henc, set_self e3] at this
  · rw [hrd, henc]; exact e3
  · have : i.toNat < sis.length := by rw [hr.len2]; exact hlt
    simp [this]
  · rw [hrd]; exact ho'
theorem DOwn.lit {hs : List (List Value)} {so : Seg} {sis : List Seg} (ho : Own (Kd.raw D.sz) e I A c hs so) (hr : DRel D I xs hs sis) (hp : s.Perm (so ++ sis.flatten)) : DOwn D e I A c xs s :=
  ⟨hs, so, sis, [], ho, by simpa using hp, hr⟩
end
section eff
variable {P : Program} {E : World} {n : Nat} {L : Fra} {I : Imm} {Ms : List Seg} {Q : Exit → Act → World → Prop} {K Kk : Act → World → Prop} {o : Oper} {α β : Type} {D : DK α β}
theorem at_merge (ka kb : Nat) {a b : Seg} (ha : Ms[ka]? = some a) (hb : (Ms.eraseIdx ka)[kb]? = some b) {M2 : List Seg} (hM : (Ms.eraseIdx ka).set kb (a ++ b) = M2) (h : At E n L I M2 K) : At E n L I Ms K := by
  subst hM
  refine at_regroup ?_ h
  refine (perm_at ha).flatten.trans ?_
  have h1 := perm_two (Ms := (Ms.eraseIdx ka).set kb (a ++ b)) (s := a ++ b) (a := a) (b := b) (k := kb) (by rw [List.getElem?_set_self' ]; rw [hb]; rfl) (.refl _)
  rw [List.set_set] at h1
  have h2 : (Ms.eraseIdx ka).set kb b = Ms.eraseIdx ka := set_self hb
  rw [h2] at h1
  exact h1.symm
theorem at_undeep {e : TypeId} {A : Option Addr} {c : Nat} {xs : List α} {s : Seg} (k : Nat) (hd : DOwn D e I A c xs s) (hm : Ms[k]? = some s) (h : ∀ J so, ImmLe I J → Own D.kd e J A c xs so → At E n L J (Ms.set k so) K) : At E n L I Ms K := by
  obtain ⟨hs, so, sis, junk, ho, hp, hr⟩ := hd
  have hp' : s.Perm ((sis.flatten ++ junk) ++ so) := hp.trans List.perm_append_comm
  refine at_regroup (perm_two hm hp') ?_
  refine at_freeze (k := 0) rfl rfl fun J hJ hin => ?_
  exact h J so hJ (DOwn.half hr ho hJ fun p m => hin p.1 p.2 (List.mem_append_left _ m))
theorem at_focus {e : TypeId} {A A1 : Option Addr} {c c1 : Nat} {xs : List α} {s : Seg} {d : α} {i : Int} (k : Nat) (hd : DAt D e I A c xs s d i A1 c1) (hm : Ms[k]? = some s)
    (h : ∀ sj hole, Own D.K D.ei I A1 c1 (D.get (rdA d xs i)) sj → Hole D e I A c xs hole d i A1 c1 → At E n L I (sj :: Ms.set k hole) K) : At E n L I Ms K := by
  obtain ⟨hb, hs, so, sis, junk, sj, ho, hp, hr, e3, e4, hj⟩ := hd
  have hfl : sis.flatten.Perm (sj ++ (sis.set i.toNat []).flatten) := by
    have := flatten_set_perm (s' := sj) e4
    rwa [set_self e4] at this
  refine at_regroup (perm_two (a := sj) (b := so ++ ((sis.set i.toNat []).flatten ++ junk)) hm ?_) ?_
  · refine hp.trans (((hfl.append_right junk).append_left so).trans ?_)
    rw [List.append_assoc, ← List.append_assoc so sj, ← List.append_assoc sj so]
    exact (List.perm_append_comm (l₁ := so) (l₂ := sj)).append_right _
  · exact h sj _ hj ⟨hb, hs, so, sis, junk, ho, .refl _, hr, e3⟩
theorem eff_makeD {t e : TypeId} {x y : Operand} {m : Int} {inf : TypeInfo} {z : Value} {d : α} (hop : o.op = .makeSlice t x y) (hd : dstOk n o.dst = true) (hx : opv L x = some (.int .i64 m)) (hy : opv L y = some (.int .i64 m))
    (ht : P.underlying t = some (.slice e)) (hi : P.info? e = some inf) (hz : inf.zero = some z) (hsz : inf.size = D.sz) (hze : D.enc d none 0 = z.cells.toList) (hzg : D.get d = []) (h0 : 0 ≤ m) (hlim : m * inf.bytes ≤ 281474976710656) (hmax : m ≤ 9223372036854775807)
    (hn : ∀ g s, DOwn D e I (some ⟨g, 0, none⟩) m.toNat (List.replicate m.toNat d) s → At E n (fput L o.dst (.slice (some ⟨g, 0, none⟩) (List.replicate m.toNat d).length m.toNat)) I (s :: Ms) Kk) : At E n L I Ms (fun a w => o.wp P a w Kk Q) := by
  refine eff_makeSlice (K := Kd.raw D.sz) (d := z.cells.toList) hop hd hx hy ht hi hz hsz (fun J => ⟨rfl, by rw [← hze]; exact D.hlen _ _ _, by rw [← hze]; exact D.hoc _ _ _⟩) h0 hlim hmax (fun g s ho => ?_)
  have hs : DOwn D e I (some ⟨g, 0, none⟩) m.toNat (List.replicate m.toNat d) s := by
    refine ⟨_, s, List.replicate m.toNat [], [], ho, by simp, DRel.rep m.toNat ⟨none, 0, hze.symm, ?_⟩⟩
    rw [hzg]; exact Own.nil _ _ _
  have := hn g s hs
  simpa using this
theorem set_row {A : Option Addr} {c : Nat} {e : TypeId} {so : Seg} {hs : List (List Value)} {j : Nat} {h : List Value} (ho : Own (Kd.raw D.sz) e I A c hs so) : so.Perm so := .refl _
/-- A store into an element of a deep row: its row stays. -/
theorem eff_storeDkeep {t e : TypeId} {x y : Operand} {A A1 : Option Addr} {c c1 : Nat} {xs : List α} {s : Seg} {v : Value} {u d : α} {i : Int} {ad : Addr} (k j : Nat) (hop : o.op = .store t x y) (hd : dstOk n o.dst = true)
    (hx : opv L x = some (.pointer (some ad))) (hv : opv L y = some v) (hat : DAt D e I A c xs s d i A1 c1) (hm : Ms[k]? = some s) (had : ad = ((A.getD ad0).add (i.toNat * D.sz)).add j)
    (hsz : size? P t = some v.cells.size) (hj : j + v.cells.size ≤ D.sz) (ho : v.cells.toList.all Value.oneCell' = true)
    (henc : (D.enc (rdA d xs i) A1 c1).take j ++ v.cells.toList ++ (D.enc (rdA d xs i) A1 c1).drop (j + v.cells.size) = D.enc u A1 c1) (hget : D.get u = D.get (rdA d xs i))
    (hn : ∀ s', DAt D e I A c (xs.set i.toNat u) s' d i A1 c1 → At E n (fput L o.dst undef) I (Ms.set k s') Kk) : At E n L I Ms (fun a w => o.wp P a w Kk Q) := by
  obtain ⟨⟨b0, b1⟩, hs, so, sis, junk, sj, hso, hp, hr, e3, e4, hsj⟩ := hat
  have hlt : i.toNat < xs.length := by omega
  have hl1 := hr.len1
  have hl2 := hr.len2
  refine at_regroup (Ms' := (sis.flatten ++ junk) :: Ms.set k so) (perm_two hm (hp.trans List.perm_append_comm)) ?_
  have hrd : rdA [] hs i = D.enc (rdA d xs i) A1 c1 := by simp [rdA, List.getD_eq_getElem?_getD, e3]
  refine eff_storeOwn (K := Kd.raw D.sz) (u := D.enc u A1 c1) (k + 1) j [] i hop hd hx hv hso (by have := (List.getElem?_eq_some_iff.1 hm).1; simp [this]) b0 (by rw [hl1]; exact b1) had hsz hj ho (fun cs hcs => ?_) (fun s' hs' => ?_)
  · obtain ⟨rfl, _, _⟩ := hcs
    rw [hrd, henc]
    exact ⟨rfl, D.hlen _ _ _, D.hoc _ _ _⟩
  · have hat' : DAt D e I A c (xs.set i.toNat u) ((sis.flatten ++ junk) ++ s') d i A1 c1 := by
      have hrdu : rdA d (xs.set i.toNat u) i = u := by simp [rdA, hlt]
      refine ⟨⟨b0, by rw [List.length_set]; exact b1⟩, hs.set i.toNat (D.enc u A1 c1), s', sis, junk, sj, hs', List.perm_append_comm, ?_, ?_, e4, by rw [hrdu, hget]; exact hsj⟩
      · have := hr.set i.toNat (x := u) (h := D.enc u A1 c1) (s := sj) ⟨A1, c1, rfl, by rw [hget]; exact hsj⟩
        rwa [set_self e4] at this
      · rw [hrdu]; simp [hl1, hlt]
    refine at_merge 0 k (a := sis.flatten ++ junk) (b := s') rfl (by have := (List.getElem?_eq_some_iff.1 hm).1; simp [this]) (by simp) (hn _ hat')
/-- A store into an element of a deep row: it gets a new row. -/
theorem eff_storeDrow {t e : TypeId} {x y : Operand} {A A2 : Option Addr} {c c2 : Nat} {xs : List α} {s s2 : Seg} {v : Value} {u d : α} {i : Int} {ad : Addr} (k k2 j : Nat) (hop : o.op = .store t x y) (hd : dstOk n o.dst = true)
    (hx : opv L x = some (.pointer (some ad))) (hv : opv L y = some v) (hdo : DOwn D e I A c xs s) (h0 : 0 ≤ i) (h1 : i < (xs.length : Int)) (hm2 : Ms[k2]? = some s2) (hm : (Ms.eraseIdx k2)[k]? = some s) (had : ad = ((A.getD ad0).add (i.toNat * D.sz)).add j)
    (hsz : size? P t = some v.cells.size) (hj : j + v.cells.size ≤ D.sz) (ho : v.cells.toList.all Value.oneCell' = true)
    (henc : ∀ A1 c1, (D.enc (rdA d xs i) A1 c1).take j ++ v.cells.toList ++ (D.enc (rdA d xs i) A1 c1).drop (j + v.cells.size) = D.enc u A2 c2) (hrow : Own D.K D.ei I A2 c2 (D.get u) s2)
    (hn : ∀ s', DAt D e I A c (xs.set i.toNat u) s' d i A2 c2 → At E n (fput L o.dst undef) I ((Ms.eraseIdx k2).set k s') Kk) : At E n L I Ms (fun a w => o.wp P a w Kk Q) := by
  obtain ⟨hs, so, sis, junk, hso, hp, hr⟩ := hdo
  have hlt : i.toNat < xs.length := by omega
  have hl1 := hr.len1
  have hl2 := hr.len2
  obtain ⟨h', sj, e3, e4, A1, c1, rfl, hsj⟩ := hr.get _ (rdA_some d xs i h0 h1)
  have hklt := (List.getElem?_eq_some_iff.1 hm).1
  refine at_perm (Ms' := s2 :: Ms.eraseIdx k2) (perm_at hm2) ?_
  refine at_regroup (Ms' := (sis.flatten ++ junk) :: (s2 :: Ms.eraseIdx k2).set (k + 1) so) (perm_two (by simpa using hm) (hp.trans List.perm_append_comm)) ?_
  have hrd : rdA [] hs i = D.enc (rdA d xs i) A1 c1 := by simp [rdA, List.getD_eq_getElem?_getD, e3]
  refine eff_storeOwn (K := Kd.raw D.sz) (u := D.enc u A2 c2) (k + 2) j [] i hop hd hx hv hso (by simp [hklt]) h0 (by rw [hl1]; exact h1) had hsz hj ho (fun cs hcs => ?_) (fun s' hs' => ?_)
  · obtain ⟨rfl, _, _⟩ := hcs
    rw [hrd, henc]
    exact ⟨rfl, D.hlen _ _ _, D.hoc _ _ _⟩
  · have hat' : DAt D e I A c (xs.set i.toNat u) (s2 ++ ((sis.flatten ++ junk) ++ s')) d i A2 c2 := by
      have hrdu : rdA d (xs.set i.toNat u) i = u := by simp [rdA, hlt]
      refine ⟨⟨h0, by rw [List.length_set]; exact h1⟩, hs.set i.toNat (D.enc u A2 c2), s', sis.set i.toNat s2, sj ++ junk, s2, hs', ?_, hr.set i.toNat ⟨A2, c2, rfl, hrow⟩, ?_, ?_, by rw [hrdu]; exact hrow⟩
      · have f1 := flatten_set_perm (s' := s2) e4
        have f2 : sis.flatten.Perm (sj ++ (sis.set i.toNat []).flatten) := by
          have := flatten_set_perm (s' := sj) e4
          rwa [set_self e4] at this
        rw [← List.append_assoc s2]
        refine List.perm_append_comm.trans (List.Perm.append_left s' ?_)
        rw [← List.append_assoc]
        refine ((f2.append_left s2).append_right junk).trans ?_
        refine List.Perm.trans ?_ (f1.symm.append_right (sj ++ junk))
        rw [List.append_assoc, List.append_assoc, List.append_assoc]
        refine List.Perm.append_left s2 ?_
        rw [← List.append_assoc sj, ← List.append_assoc _ sj]
        exact List.perm_append_comm.append_right junk
      · rw [hrdu]; simp [hl1, hlt]
      · simp [hl2, hlt]
    refine at_merge 0 (k + 1) (a := sis.flatten ++ junk) (b := s') rfl (by simp [hklt]) rfl ?_
    refine at_merge 0 k (a := s2) (b := (sis.flatten ++ junk) ++ s') (by simp) (by simp [hklt]) (by simp) (hn _ hat')
theorem add_add' (a : Addr) (m n : Nat) : (a.add m).add n = a.add (m + n) := by
  unfold Addr.add
  by_cases h1 : m = 0
  · subst h1; simp
  · by_cases h2 : n = 0
    · subst h2; simp
    · simp [h1, h2]; omega
/-- A row that was taken out and has grown is laid back. -/
theorem eff_storeHole {t e : TypeId} {x y : Operand} {A A1 A2 : Option Addr} {c c1 c2 : Nat} {xs : List α} {s s2 : Seg} {v : Value} {u d : α} {i : Int} {ad : Addr} (k k2 j : Nat) (hop : o.op = .store t x y) (hd : dstOk n o.dst = true)
    (hx : opv L x = some (.pointer (some ad))) (hv : opv L y = some v) (hh : Hole D e I A c xs s d i A1 c1) (hm2 : Ms[k2]? = some s2) (hm : (Ms.eraseIdx k2)[k]? = some s) (had : ad = ((A.getD ad0).add (i.toNat * D.sz)).add j)
    (hsz : size? P t = some v.cells.size) (hj : j + v.cells.size ≤ D.sz) (ho : v.cells.toList.all Value.oneCell' = true)
    (henc : (D.enc (rdA d xs i) A1 c1).take j ++ v.cells.toList ++ (D.enc (rdA d xs i) A1 c1).drop (j + v.cells.size) = D.enc u A2 c2) (hrow : Own D.K D.ei I A2 c2 (D.get u) s2)
    (hn : ∀ s', DAt D e I A c (xs.set i.toNat u) s' d i A2 c2 → At E n (fput L o.dst undef) I ((Ms.eraseIdx k2).set k s') Kk) : At E n L I Ms (fun a w => o.wp P a w Kk Q) := by
  obtain ⟨⟨h0, h1⟩, hs, so, sis, junk, hso, hp, hr, e3⟩ := hh
  have hlt : i.toNat < xs.length := by omega
  have hl1 := hr.len1
  have hl2 := hr.len2
  obtain ⟨h', sj, e3', e4, _⟩ := hr.get _ (rdA_some d xs i h0 h1)
  have hklt := (List.getElem?_eq_some_iff.1 hm).1
  refine at_perm (Ms' := s2 :: Ms.eraseIdx k2) (perm_at hm2) ?_
  refine at_regroup (Ms' := ((sis.set i.toNat []).flatten ++ junk) :: (s2 :: Ms.eraseIdx k2).set (k + 1) so) (perm_two (by simpa using hm) (hp.trans List.perm_append_comm)) ?_
  have hrd : rdA [] hs i = D.enc (rdA d xs i) A1 c1 := by simp [rdA, List.getD_eq_getElem?_getD, e3]
  refine eff_storeOwn (K := Kd.raw D.sz) (u := D.enc u A2 c2) (k + 2) j [] i hop hd hx hv hso (by simp [hklt]) h0 (by rw [hl1]; exact h1) had hsz hj ho (fun cs hcs => ?_) (fun s' hs' => ?_)
  · obtain ⟨rfl, _, _⟩ := hcs
    rw [hrd, henc]
    exact ⟨rfl, D.hlen _ _ _, D.hoc _ _ _⟩
  · have hat' : DAt D e I A c (xs.set i.toNat u) (s2 ++ (((sis.set i.toNat []).flatten ++ junk) ++ s')) d i A2 c2 := by
      have hrdu : rdA d (xs.set i.toNat u) i = u := by simp [rdA, hlt]
      refine ⟨⟨h0, by rw [List.length_set]; exact h1⟩, hs.set i.toNat (D.enc u A2 c2), s', sis.set i.toNat s2, junk, s2, hs', ?_, hr.set i.toNat ⟨A2, c2, rfl, hrow⟩, ?_, ?_, by rw [hrdu]; exact hrow⟩
      · have f1 := flatten_set_perm (s' := s2) e4
        rw [← List.append_assoc s2]
        refine List.perm_append_comm.trans (List.Perm.append_left s' ?_)
        rw [← List.append_assoc]
        exact f1.symm.append_right junk
      · rw [hrdu]; simp [hl1, hlt]
      · simp [hl2, hlt]
    refine at_merge 0 (k + 1) (a := (sis.set i.toNat []).flatten ++ junk) (b := s') rfl (by simp [hklt]) rfl ?_
    refine at_merge 0 k (a := s2) (b := ((sis.set i.toNat []).flatten ++ junk) ++ s') (by simp) (by simp [hklt]) (by simp) (hn _ hat')
theorem eff_appendD {c : Call} {t t2 e e2 : TypeId} {x y : Operand} {A B : Option Addr} {cA cB : Nat} {xs ys : List α} {s s2 : Seg} {inf : TypeInfo} {z : Value} (k k2 : Nat) (hop : o.op = .call c) (hcal : c.callee = .builtin .append)
    (hargs : c.args.toList = [x, y]) (hts : c.argTypes.toList = [t, t2]) (hd : dstOk n o.dst = true) (ht : P.underlying t = some (.slice e)) (ht2 : P.underlying t2 = some (.slice e2)) (hi : P.info? e = some inf) (hz : inf.zero = some z)
    (hsz : inf.size = D.sz) (hzs : z.cells.size = D.sz) (hx : opv L x = some (.slice A xs.length cA)) (hy : opv L y = some (.slice B ys.length cB)) (ho : DOwn D e I A cA xs s) (ho2 : DOwn D e I B cB ys s2) (hm2 : Ms[k2]? = some s2) (hm : (Ms.eraseIdx k2)[k]? = some s)
    (hlim : (xs.length + ys.length) * inf.bytes ≤ 140737488355328) (hlen : xs.length + ys.length ≤ 9223372036854775807)
    (hn : ∀ A' c' s', DOwn D e I A' c' (xs ++ ys) s' → At E n (fput L o.dst (.slice A' (xs ++ ys).length c')) I ((Ms.eraseIdx k2).set k s') Kk) : At E n L I Ms (fun a w => o.wp P a w Kk Q) := by
  obtain ⟨hs, so, sis, junk, hso, hp, hr⟩ := ho
  obtain ⟨gs, to, tis, junk2, hto, hp2, hr2⟩ := ho2
  have hl1 := hr.len1
  have hg1 := hr2.len1
  have hklt := (List.getElem?_eq_some_iff.1 hm).1
  refine at_perm (Ms' := s2 :: Ms.eraseIdx k2) (perm_at hm2) ?_
  refine at_regroup (Ms' := (sis.flatten ++ junk) :: (s2 :: Ms.eraseIdx k2).set (k + 1) so) (perm_two (by simpa using hm) (hp.trans List.perm_append_comm)) ?_
  refine at_regroup (Ms' := (tis.flatten ++ junk2) :: ((sis.flatten ++ junk) :: (s2 :: Ms.eraseIdx k2).set (k + 1) so).set 1 to) (perm_two (s := s2) (by simp) (hp2.trans List.perm_append_comm)) ?_
  rw [← hl1] at hx
  rw [← hg1] at hy
  refine eff_append (K := Kd.raw D.sz) (xs := hs) (ys := gs) (k + 3) hop hcal hargs hts hd ht ht2 hi hz hsz hzs hx hy hso (by simp [hklt]) (fun w hsat => hto.rowAt (k := 2) hsat (by simp)) (by rw [hl1, hg1]; exact hlim) (by rw [hl1, hg1]; exact hlen) (fun A' c' s' hown => ?_)
  have hres : DOwn D e I A' c' (xs ++ ys) ((tis.flatten ++ junk2) ++ ((sis.flatten ++ junk) ++ s')) := by
    refine ⟨hs ++ gs, s', sis ++ tis, junk ++ junk2, hown, ?_, hr.append hr2⟩
    rw [← List.append_assoc]
    refine List.perm_append_comm.trans (List.Perm.append_left s' ?_)
    rw [List.flatten_append]
    refine List.perm_append_comm.trans ?_
    rw [List.append_assoc, List.append_assoc]
    refine List.Perm.append_left _ ?_
    rw [← List.append_assoc, ← List.append_assoc]
    exact List.perm_append_comm.append_right junk2
  have hlen' : (hs ++ gs).length = (xs ++ ys).length := by simp [hl1, hg1]
  rw [hlen']
  refine at_merge 1 (k + 2) (a := sis.flatten ++ junk) (b := s') (by simp) (by simp [hklt]) rfl ?_
  refine at_merge 0 (k + 1) (a := tis.flatten ++ junk2) (b := (sis.flatten ++ junk) ++ s') (by simp) (by simp [hklt]) rfl ?_
  refine at_drop (k := 0) (s := to) (by simp) rfl ?_
  simpa using hn A' c' _ hres
end eff
end Go.Proofs.Ytnhnipdanpcbeaa.Eng
