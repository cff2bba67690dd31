/- The engine, part 6: code, regions, calls. -/
import Derived.Test.YtnhnipdanpcbeaaEng5
namespace Go.Proofs.Ytnhnipdanpcbeaa.Eng
open Go

section code
variable {P : Program} {E : World} {n : Nat} {L : Fra} {I : Imm} {Ms : List Seg} {Q : Exit → Act → World → Prop} {K : Act → World → Prop}

theorem at_seq {x y : Code} (h : At E n L I Ms (x.wp P (Exit.then (y.wp P Q) Q))) : At E n L I Ms ((Code.seq x y).wp P Q) := fun a w ha hs => wp_seq (h a w ha hs)
theorem at_skip (h : At E n L I Ms (Q .normal)) : At E n L I Ms (Code.skip.wp P Q) := fun a w ha hs => wp_skip (h a w ha hs)
theorem at_exit {id : Nat} (h : At E n L I Ms (Q (.exit id))) : At E n L I Ms ((Code.exit id).wp P Q) := fun a w ha hs => wp_exit (h a w ha hs)
theorem at_ret (h : At E n L I Ms (Q .ret)) : At E n L I Ms (Code.ret.wp P Q) := fun a w ha hs => wp_ret (h a w ha hs)
theorem at_block {id : Nat} {c : Code} (h : At E n L I Ms (c.wp P (Exit.inBlock id Q))) : At E n L I Ms ((Code.block id c).wp P Q) := fun a w ha hs => wp_block (h a w ha hs)
theorem at_cond {c : Operand} {x y : Code} {b : Bool} (hc : opv L c = some (.bool b)) (ht : b = true → At E n L I Ms (x.wp P Q)) (hf : b = false → At E n L I Ms (y.wp P Q)) :
    At E n L I Ms ((Code.cond c x y).wp P Q) := fun a w ha hs => wp_cond_split (opv_eval ha hc) (fun h => ht h a w ha hs) (fun h => hf h a w ha hs)
theorem at_thn (h : At E n L I Ms K) : At E n L I Ms (Exit.then K Q .normal) := h
theorem at_then_ret (h : At E n L I Ms (Q .ret)) : At E n L I Ms (Exit.then K Q .ret) := h
theorem at_then_exit {id : Nat} (h : At E n L I Ms (Q (.exit id))) : At E n L I Ms (Exit.then K Q (.exit id)) := h
theorem at_in_norm {id : Nat} (h : At E n L I Ms (Q .normal)) : At E n L I Ms (Exit.inBlock id Q .normal) := h
theorem at_in_ret {id : Nat} (h : At E n L I Ms (Q .ret)) : At E n L I Ms (Exit.inBlock id Q .ret) := h
theorem at_in_hit {id : Nat} (h : At E n L I Ms (Q .normal)) : At E n L I Ms (Exit.inBlock id Q (.exit id)) := fun a w ha hs => by
  simp only [Exit.inBlock, if_true]; exact h a w ha hs
theorem at_in_miss {id id' : Nat} (hne : id' ≠ id) (h : At E n L I Ms (Q (.exit id'))) : At E n L I Ms (Exit.inBlock id Q (.exit id')) := fun a w ha hs => by
  simp only [Exit.inBlock, hne, if_false]; exact h a w ha hs

/-- From a loop's head on. -/
def Lp (P : Program) (c : Code) (Q : Exit → Act → World → Prop) (a : Act) (w : World) : Prop :=
  ∀ (b : Frame) (k : List Item) (cs : List Frame), ∃ e a' w', Q e a' w' ∧ Arrives P (lone (b.at a (.code c :: .inLoop c :: k)) cs w) b k cs e a' w'
theorem wp_of_Lp {c : Code} {a : Act} {w : World} (h : Lp P c Q a w) : (Code.loop c).wp P Q a w := fun b k cs => by
  obtain ⟨e, a', w', hq, harr⟩ := h b k cs
  exact ⟨e, a', w', hq, .of_steps (.one step_loop) harr⟩
theorem Lp_round {c : Code} {a : Act} {w : World} (h : c.wp P (Exit.then (Lp P c Q) Q) a w) : Lp P c Q a w := fun b k cs => by
  obtain ⟨e, a₁, w₁, hq, harr⟩ := h b (.inLoop c :: k) cs
  cases e with
  | normal =>
    obtain ⟨e₂, a₂, w₂, hq₂, harr₂⟩ := hq b k cs
    exact ⟨e₂, a₂, w₂, hq₂, .of_steps (Steps.trans harr (.one step_inLoop)) harr₂⟩
  | exit id => exact ⟨_, a₁, w₁, hq, .pass (x := .inLoop c) rfl (fun _ _ => .inl (by simp)) harr⟩
  | goto l => exact ⟨_, a₁, w₁, hq, .pass (x := .inLoop c) rfl (fun _ _ => .inl (by simp)) harr⟩
  | ret => exact ⟨_, a₁, w₁, hq, .pass (x := .inLoop c) rfl (fun _ _ => .inl (by simp)) harr⟩
  | panic ch => exact ⟨_, a₁, w₁, hq, .pass (x := .inLoop c) rfl (fun _ _ => .inl (by simp)) harr⟩
  | outgrown => exact ⟨_, a₁, w₁, hq, .pass (x := .inLoop c) rfl (fun _ _ => .inl (by simp)) harr⟩
theorem at_loop {c : Code} (Inv : Nat → Fra → Imm → List Seg → Prop) (h0 : ∀ L I Ms, Inv 0 L I Ms → False)
    (hr : ∀ k, (∀ j, j ≤ k → ∀ L I Ms, Inv j L I Ms → At E n L I Ms (Lp P c Q)) → ∀ L I Ms, Inv (k + 1) L I Ms → At E n L I Ms (c.wp P (Exit.then (Lp P c Q) Q)))
    (k : Nat) (hi : Inv k L I Ms) : At E n L I Ms ((Code.loop c).wp P Q) := by
  have key : ∀ k L I Ms, Inv k L I Ms → At E n L I Ms (Lp P c Q) := by
    intro k
    induction k using Nat.strongRecOn with
    | _ k ih =>
      cases k with
      | zero => exact fun L I Ms h => (h0 L I Ms h).elim
      | succ k => exact fun L I Ms h a w ha hs => Lp_round (hr k (fun j hj => ih j (by omega)) L I Ms h a w ha hs)
  exact fun a w ha hs => wp_of_Lp (key k L I Ms hi a w ha hs)

/-! ### regions -/
def runK (P : Program) (n : Nat) (ops : Array Oper) (l : List Nat) (L : Fra) (ann : Ann) (ks : List Nat) : Option (Fra × List (World → Prop)) :=
  match runL P n ops l L ann with
  | some (L', obs) => some (keepL ks L', obs)
  | none => none
theorem runK_spec {ops : Array Oper} {l : List Nat} {ann : Ann} {ks : List Nat} {L2 : Fra} {obs : List (World → Prop)} (h : runK P n ops l L ann ks = some (L2, obs)) :
    ∃ L', runL P n ops l L ann = some (L', obs) ∧ keepL ks L' = L2 := by
  unfold runK at h
  split at h
  · rename_i L' obs' hr
    cases h
    exact ⟨L', hr, rfl⟩
  · cases h
theorem at_reg {id : Nat} {ops : Array Oper} (ann : Ann) (ks : List Nat) {L2 : Fra} {obs : List (World → Prop)}
    (h : runK P n ops (List.range ops.size) L ann ks = some (L2, obs)) (ho : ∀ w, Sat E w I Ms → allOb obs w) (hn : At E n L2 I Ms (Q .normal)) :
    At E n L I Ms ((Code.region id ops false).wp P Q) := fun a w ha hs => by
  obtain ⟨L', hr, rfl⟩ := runK_spec h
  refine wp_region ?_
  have := ops_runL (P := P) (Q := Q) (rest := []) (w := w) (List.range ops.size) L L' obs a hr ha (ho w hs) (fun a' ha' => hn a' w (ha'.keep ks) hs)
  simpa using this
def drawOk (ops : Array Oper) : Bool :=
  match Region.noSelect ops, takes ops (List.range ops.size) (Array.replicate ops.size false), Region.ready .any ops (setAll (List.range ops.size) (Array.replicate ops.size false)) with
  | true, true, [] => true
  | _, _, _ => false
theorem wp_noP {c : Code} {a : Act} {w : World} (h : c.wp P (NoP Q) a w) : c.wp P Q a w := wp_mono h fun e _ _ hq => by cases e <;> first | exact hq | exact hq.elim
theorem at_regd {id : Nat} {ops : Array Oper} (hm : P.follows .mixedOrders = true) (ann : Ann) (ks : List Nat) {L2 : Fra} {obs : List (World → Prop)} (hd : drawOk ops = true)
    (h : runK P n ops (List.range ops.size) L ann ks = some (L2, obs)) (ho : ∀ w, Sat E w I Ms → allOb obs w) (hn : At E n L2 I Ms (Q .normal)) :
    At E n L I Ms ((Code.region id ops true).wp P Q) := fun a w ha hs => by
  obtain ⟨L', hr, rfl⟩ := runK_spec h
  unfold drawOk at hd
  split at hd
  case h_2 => cases hd
  rename_i h1 h2 h3
  let S : World → Prop := fun w' => Sat E w' I Ms
  let wd : World := { w with drawn := w.drawn + 1 }
  have hk : ∀ a', FrOk a' n L' → wpAnyH P .any ops (NoP Q) S 0 (setAll (List.range ops.size) (Array.replicate ops.size false)) a' wd :=
    fun a' ha' => wpAnyH_done (P := P) (Q := NoP Q) (S := S) h3 (hn a' wd (ha'.keep ks) (hs.drew _)) 0
  have := any_runL (P := P) (Q := Q) (S := S) (w := wd) (ann := ann) (fuel := 0) h1 (hs.drew _)
    (List.range ops.size) L L' obs a (Array.replicate ops.size false) hr h2 ha (fun w' h' => ho w' h') hk
  refine wp_noP (wp_region_held (S := S) hm ?_)
  simp only [List.length_range, Nat.zero_add] at this
  exact this
/-- Several operations of a region in the text's order. -/
theorem at_ops {id : Nat} {ops : Array Oper} (l : List Nat) (hl : List.range ops.size = l) (h : At E n L I Ms (wpOps P ops Q l)) : At E n L I Ms ((Code.region id ops false).wp P Q) := fun a w ha hs => by
  refine wp_region ?_
  rw [hl]
  exact h a w ha hs
theorem at_seg {ops : Array Oper} {lr : List Nat} (l rest : List Nat) (hl : l ++ rest = lr) (ann : Ann) (ks : List Nat) {L2 : Fra} {obs : List (World → Prop)}
    (h : runK P n ops l L ann ks = some (L2, obs)) (ho : ∀ w, Sat E w I Ms → allOb obs w) (hn : At E n L2 I Ms (wpOps P ops Q rest)) :
    At E n L I Ms (wpOps P ops Q lr) := fun a w ha hs => by
  obtain ⟨L', hr, rfl⟩ := runK_spec h
  subst hl
  exact ops_runL (P := P) (Q := Q) (rest := rest) (w := w) l L L' obs a hr ha (ho w hs) (fun a' ha' => hn a' w (ha'.keep ks) hs)
theorem at_end {ops : Array Oper} (h : At E n L I Ms (Q .normal)) : At E n L I Ms (wpOps P ops Q []) := h
theorem at_eff {ops : Array Oper} {i : Nat} {rest : List Nat} {o : Oper} (hi : ops[i]? = some o) (hg : gd ops L o = some true) (h : At E n L I Ms (fun a w => o.wp P a w (wpOps P ops Q rest) Q)) :
    At E n L I Ms (wpOps P ops Q (i :: rest)) := fun a w ha hs => by
  simp only [wpOps, hi, gd_wanted hg ha, if_true]
  exact .inl (h a w ha hs)
/-! a region that draws and does more than read -/
theorem at_draw {id : Nat} {ops : Array Oper} (hm : P.follows .mixedOrders = true) (S : World → Prop)
    (h : At E n L I Ms (wpAnyH P .any ops (NoP Q) S ops.size (Array.replicate ops.size false))) : At E n L I Ms ((Code.region id ops true).wp P Q) := fun a w ha hs =>
  wp_noP (wp_region_held hm (h a _ ha (hs.drew _)))
theorem at_dseg {ops : Array Oper} {S : World → Prop} {fuel : Nat} {listed : Array Bool} (l : List Nat) (fuel' : Nat) (listed' : Array Bool) (hf : fuel' + l.length = fuel) (hl : setAll l listed = listed')
    (ann : Ann) (ks : List Nat) {L2 : Fra} {obs : List (World → Prop)} (hsel : Region.noSelect ops = true) (ht : takes ops l listed = true)
    (h : runK P n ops l L ann ks = some (L2, obs)) (hS : ∀ w, Sat E w I Ms → S w) (ho : ∀ w, S w → allOb obs w) (hn : At E n L2 I Ms (wpAnyH P .any ops (NoP Q) S fuel' listed')) :
    At E n L I Ms (wpAnyH P .any ops (NoP Q) S fuel listed) := fun a w ha hs => by
  obtain ⟨L', hr, rfl⟩ := runK_spec h
  subst hf hl
  exact any_runL (P := P) (Q := Q) hsel (hS w hs) l L L' obs a listed hr ht ha ho (fun a' ha' => hn a' w (ha'.keep ks) hs)
theorem at_dend {ops : Array Oper} {S : World → Prop} {fuel : Nat} {listed : Array Bool} (hr : Region.ready .any ops listed = []) (h : At E n L I Ms (Q .normal)) :
    At E n L I Ms (wpAnyH P .any ops (NoP Q) S fuel listed) := fun a w ha hs => wpAnyH_done (P := P) (Q := NoP Q) (S := S) hr (h a w ha hs) fuel
theorem at_wpOp {ops : Array Oper} {i : Nat} {o : Oper} (hi : ops[i]? = some o) (hg : gd ops L o = some true) (h : At E n L I Ms (fun a w => o.wp P a w K Q)) :
    At E n L I Ms (fun a w => wpOp P ops Q i K a w) := fun a w ha hs => by
  simp only [wpOp, hi, gd_wanted hg ha, if_true]
  exact .inl (h a w ha hs)
theorem at_deff {ops : Array Oper} {S : World → Prop} {fuel : Nat} {listed : Array Bool} (rs : List Nat) (hr : Region.ready .any ops listed = rs) (hne : rs ≠ [])
    (h : ∀ i ∈ rs, At E n L I Ms (fun a w => wpOp P ops (NoP Q) i (fun a' w' => S w' ∧ wpAnyH P .any ops (NoP Q) S fuel (listed.setIfInBounds i true) a' w') a w)) :
    At E n L I Ms (wpAnyH P .any ops (NoP Q) S (fuel + 1) listed) := fun a w ha hs => wpAnyH_all hr hne fun i hi => h i hi a w ha hs
theorem at_deff1 {ops : Array Oper} {S : World → Prop} {fuel : Nat} {listed : Array Bool} (fuel' i : Nat) {o : Oper} (listed' : Array Bool) (hf : fuel' + 1 = fuel) (hr : Region.ready .any ops listed = [i]) (hl : listed.setIfInBounds i true = listed')
    (hi : ops[i]? = some o) (hg : gd ops L o = some true)
    (h : At E n L I Ms (fun a w => o.wp P a w (fun a' w' => S w' ∧ wpAnyH P .any ops (NoP Q) S fuel' listed' a' w') (NoP Q))) :
    At E n L I Ms (wpAnyH P .any ops (NoP Q) S fuel listed) := by
  subst hf hl
  refine at_deff [i] hr (by simp) fun j hj => ?_
  rw [List.mem_singleton] at hj
  subst hj
  exact at_wpOp hi hg h
theorem at_S {S : World → Prop} (hS : ∀ w, Sat E w I Ms → S w) (h : At E n L I Ms K) : At E n L I Ms (fun a w => S w ∧ K a w) := fun a w ha hs => ⟨hS w hs, h a w ha hs⟩
/-! frames and segments -/
theorem at_keep (ks : List Nat) {L2 : Fra} (hk : keepL ks L = L2) (h : At E n L2 I Ms K) : At E n L I Ms K := fun a w ha hs => h a w (hk ▸ ha.keep ks) hs
theorem at_eqL {L2 : Fra} (hk : L = L2) (h : At E n L2 I Ms K) : At E n L I Ms K := hk ▸ h
theorem Sat.perm {w : World} {Ms' : List Seg} (hp : Ms.Perm Ms') (h : Sat E w I Ms) : Sat E w I Ms' :=
  have hf : Ms.flatten.Perm Ms'.flatten := hp.flatten
  ⟨h.os, h.tape, h.output, h.imm, fun b o m => h.mt b o (hf.mem_iff.2 m), (hf.map _).nodup_iff.1 h.nd⟩
theorem at_perm {Ms' : List Seg} (hp : Ms.Perm Ms') (h : At E n L I Ms' K) : At E n L I Ms K := fun a w ha hs => h a w ha (hs.perm hp)
end code

/-! ### contracts -/
def Meets (P : Program) (f : FuncId) (args : Array Value) (I : Imm) (Mc : List Seg) (post : Value → Imm → List Seg → Prop) : Prop :=
  ∀ (E w : World) (Fs : List Seg), Sat E w I (Mc ++ Fs) → Calls P f args w fun e w' => ∃ v I' Mc', e = .returned v ∧ post v I' Mc' ∧ ImmLe I I' ∧ Sat E w' I' (Mc' ++ Fs)
def MeetsR (E : World) (I : Imm) (Fs : List Seg) (post : Value → Imm → List Seg → Prop) (e : Ending) (w' : World) : Prop :=
  ∃ v I' Mc', e = .returned v ∧ post v I' Mc' ∧ ImmLe I I' ∧ Sat E w' I' (Mc' ++ Fs)
theorem Meets.mono {P : Program} {f : FuncId} {args : Array Value} {I : Imm} {Mc : List Seg} {post post' : Value → Imm → List Seg → Prop} (h : Meets P f args I Mc post)
    (hp : ∀ v I' M, ImmLe I I' → post v I' M → post' v I' M) : Meets P f args I Mc post' := fun E w Fs hs =>
  (h E w Fs hs).mono fun _ _ ⟨v, I', M, he, hq, hi, hs'⟩ => ⟨v, I', M, he, hp v I' M hi hq, hi, hs'⟩
def argL : Nat → List Value → Fra
  | _, [] => []
  | i, v :: r => (i, v) :: argL (i + 1) r
theorem argL_mem : ∀ {l : List Value} {i t : Nat} {v : Value}, (t, v) ∈ argL i l → ∃ j, t = i + j ∧ l[j]? = some v
  | u :: r, i, t, v, h => by
    simp only [argL, List.mem_cons, Prod.mk.injEq] at h
    rcases h with ⟨rfl, rfl⟩ | h
    · exact ⟨0, rfl, rfl⟩
    · obtain ⟨j, rfl, hj⟩ := argL_mem h
      exact ⟨j + 1, by omega, hj⟩
theorem fn_intro {P : Program} {f : FuncId} {fn : Func} {c : Code} {args : List Value} {I : Imm} {Mc : List Seg} {post : Value → Imm → List Seg → Prop} (n : Nat)
    (hf : P.funcs[f]? = some fn) (hb : fn.body = some c) (hn : fn.ntmps = n) (ha : Nat.ble args.length n = true)
    (h : ∀ E Fs, At E n (argL 0 args) I (Mc ++ Fs) (c.wp P (bodyPost P fn (MeetsR E I Fs post)))) : Meets P f args.toArray I Mc post := fun E w Fs hs => by
  have ha' : args.length ≤ n := Nat.le_of_ble_eq_true ha
  refine calls_of_wp hf hb (h E Fs _ w ⟨rfl, ?_, ?_⟩ hs)
  · simp [hn]; omega
  · intro t v m
    obtain ⟨j, rfl, hj⟩ := argL_mem m
    have hlt : j < args.length := (List.getElem?_eq_some_iff.1 hj).1
    simp only [Nat.zero_add]
    rw [Array.getElem?_append_left (by simpa using hlt)]
    simpa using hj
def resL (P : Program) (L : Fra) : List ResultVar → Ann → Option (List Value × List (World → Prop))
  | [], _ => some ([], [])
  | .tmp t :: r, ann => match look L t, resL P L r ann with
    | some v, some (vs, obs) => some (v :: vs, obs)
    | _, _ => none
  | .cell t T :: r, ann => match look L t, look ann t, isAgg? P T, resL P L r ann with
    | some (.pointer (some ad)), some (.agg cs), some true, some (vs, obs) => match size? P T with
      | some m => match Nat.beq m cs.size with
        | true => some (.agg cs :: vs, (fun w => CellsAt w ad cs.toList 0) :: obs)
        | false => none
      | none => none
    | some (.pointer (some ad)), some v, some false, some (vs, obs) => some (v :: vs, (fun w => w.cell? ad = some v) :: obs)
    | _, _, _, _ => none
def resF (tmps : Array Value) : ResultVar → Sem Value
  | .tmp t => pure (tmps.getD t undef)
  | .cell b t => do loadVar t (← asAddr (tmps.getD b undef))
theorem results_eq (fn : Func) (tmps : Array Value) : results fn tmps = (do let vs ← fn.results.mapM (resF tmps); pure (if h : vs.size = 1 then vs[0] else .tuple vs)) := by
  unfold results
  congr 1
theorem run_asAddr {P : Program} {ad : Addr} {w : World} : (asAddr (.pointer (some ad))).run P w = .ok ad w := rfl
theorem resL_run {P : Program} {a : Act} {n : Nat} {L : Fra} {w : World} (ha : FrOk a n L) : ∀ (rs : List ResultVar) {ann : Ann} {vs : List Value} {obs : List (World → Prop)}, resL P L rs ann = some (vs, obs) → allOb obs w →
    (rs.mapM (resF a.tmps)).run P w = .ok vs w
  | [], ann, vs, obs, h, _ => by cases h; simp
  | .tmp t :: r, ann, vs, obs, h, hw => by
    simp only [resL] at h
    split at h
    · rename_i v vs' obs' h1 h2
      cases h
      have e : a.tmps.getD t undef = v := by
        have := ha.ok t v (look_mem h1)
        simp [Array.getD_eq_getD_getElem?, this]
      have ih := resL_run ha r h2 hw
      simp only [List.mapM_cons, resF, Sem.run_bind, Sem.run_pure, Result.andThen_ok, e, ih]
    · cases h
  | .cell t T :: r, ann, vs, obs, h, hw => by
    simp only [resL] at h
    split at h
    · rename_i ad cs vs' obs' h1 h2 h3 h4
      split at h
      · rename_i m hm
        split at h
        · rename_i hb
          cases h
          rw [allOb_cons] at hw
          have e : a.tmps.getD t undef = .pointer (some ad) := by
            have := ha.ok t _ (look_mem h1)
            simp [Array.getD_eq_getD_getElem?, this]
          have ih := resL_run ha r h4 hw.2
          have hm' : size? P T = some cs.size := by rw [hm, Nat.eq_of_beq_eq_true hb]
          simp only [List.mapM_cons, resF, Sem.run_bind, Sem.run_pure, Result.andThen_ok, e, run_asAddr, ih, run_loadVar_agg h3 hm' hw.1]
        · cases h
      · cases h
    · rename_i ad v vs' obs' h1 h2 h3 h4
      cases h
      rw [allOb_cons] at hw
      have e : a.tmps.getD t undef = .pointer (some ad) := by
        have := ha.ok t _ (look_mem h1)
        simp [Array.getD_eq_getD_getElem?, this]
      have ih := resL_run ha r h4 hw.2
      simp only [List.mapM_cons, resF, Sem.run_bind, Sem.run_pure, Result.andThen_ok, e, run_asAddr, ih, run_loadVar_one h3 hw.1]
    · cases h
def packV : List Value → Value
  | [v] => v
  | vs => .tuple vs.toArray
theorem at_done {P : Program} {E : World} {n : Nat} {L : Fra} {I I0 : Imm} {Ms Fs : List Seg} {fn : Func} {post : Value → Imm → List Seg → Prop} {e : Exit} (he : e = .ret ∨ e = .normal) (rs : List ResultVar) (ann : Ann) {vs : List Value} {obs : List (World → Prop)}
    (hrs : fn.results.toList = rs) (h : resL P L rs ann = some (vs, obs)) (ho : ∀ w, Sat E w I Ms → allOb obs w) (hR : ∀ w, Sat E w I Ms → MeetsR E I0 Fs post (.returned (packV vs)) w) :
    At E n L I Ms (bodyPost P fn (MeetsR E I0 Fs post) e) := fun a w ha hs => by
  have key : (results fn a.tmps).run P w = .ok (packV vs) w := by
    have hm := resL_run (P := P) ha rs h (ho w hs)
    rw [results_eq, Array.mapM_eq_mapM_toList, hrs]
    simp only [Sem.run_bind, Sem.run_map, hm, Result.andThen_ok, Sem.run_pure, List.size_toArray]
    congr 1
    match vs with
    | [] => rfl
    | [v] => rfl
    | v :: u :: r => simp [packV]
  rcases he with rfl | rfl <;> exact ⟨ha.df, _, key, hR w hs⟩
end Go.Proofs.Ytnhnipdanpcbeaa.Eng
