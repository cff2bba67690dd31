/- Short forms of what is said most often. -/
import Derived.Test.YtnhnipdanpcbeaaEng22
namespace Go.Proofs.Ytnhnipdanpcbeaa.Eng
open Go
set_option linter.unusedVariables false
section
variable {P : Program} {E : World} {n : Nat} {L : Fra} {I : Imm} {Ms : List Seg} {Q : Exit → Act → World → Prop} {K : Act → World → Prop}
theorem at_reg0 {id : Nat} {ops : Array Oper} (ann : Ann) (ks : List Nat) (L2 : Fra) (hn : At E n L2 I Ms (Q .normal)) (h : runK P n ops (List.range ops.size) L ann ks = some (L2, []) := by kernel_rfl) :
    At E n L I Ms ((Code.region id ops false).wp P Q) := at_reg ann ks h (fun _ _ => trivial) hn
theorem at_seg0 {ops : Array Oper} {lr : List Nat} (l rest : List Nat) (ann : Ann) (ks : List Nat) (L2 : Fra) (hn : At E n L2 I Ms (wpOps P ops Q rest)) (h : runK P n ops l L ann ks = some (L2, []) := by kernel_rfl) (hl : l ++ rest = lr := by rfl) :
    At E n L I Ms (wpOps P ops Q lr) := at_seg l rest hl ann ks h (fun _ _ => trivial) hn
theorem at_reg1 {id : Nat} {ops : Array Oper} (ann : Ann) (ks : List Nat) (L2 : Fra) (obs : List (World → Prop)) (ho : ∀ w, Sat E w I Ms → allOb obs w) (hn : At E n L2 I Ms (Q .normal)) (h : runK P n ops (List.range ops.size) L ann ks = some (L2, obs) := by kernel_rfl) :
    At E n L I Ms ((Code.region id ops false).wp P Q) := at_reg ann ks h ho hn
theorem at_seg1 {ops : Array Oper} {lr : List Nat} (l rest : List Nat) (ann : Ann) (ks : List Nat) (L2 : Fra) (obs : List (World → Prop)) (ho : ∀ w, Sat E w I Ms → allOb obs w) (hn : At E n L2 I Ms (wpOps P ops Q rest)) (h : runK P n ops l L ann ks = some (L2, obs) := by kernel_rfl) (hl : l ++ rest = lr := by rfl) :
    At E n L I Ms (wpOps P ops Q lr) := at_seg l rest hl ann ks h ho hn
theorem at_sg (M1 : List Seg) (h : At E n L I M1 K) (h1 : Ms = M1 := by kernel_rfl) : At E n L I Ms K := h1 ▸ h
end
theorem at_done0 {P : Program} {E : World} {n : Nat} {L : Fra} {I I0 : Imm} {Ms Fs : List Seg} {fn : Func} {post : Value → Imm → List Seg → Prop} {e : Exit} (vs : List Value) (he : e = .ret ∨ e = .normal) (rs : List ResultVar)
    (hR : ∀ w, Sat E w I Ms → MeetsR E I0 Fs post (.returned (packV vs)) w) (h : resL P L rs [] = some (vs, []) := by kernel_rfl) (hrs : fn.results.toList = rs := by rfl) :
    At E n L I Ms (bodyPost P fn (MeetsR E I0 Fs post) e) := at_done he rs [] hrs h (fun _ _ => trivial) hR
abbrev iV (x : Int) : Value := .int .i64 x
def oT (c : Prop) [Decidable c] : World → Prop := fun _ => (.bool (decide c) : Value) = .bool true
def oF (c : Prop) [Decidable c] : World → Prop := fun _ => (.bool (decide c) : Value) = .bool false
theorem cT {c : Prop} {_ : Decidable c} (h : c) : (.bool (decide c) : Value) = .bool true := congrArg Value.bool (decide_eq_true h)
theorem cF {c : Prop} {_ : Decidable c} (h : ¬ c) : (.bool (decide c) : Value) = .bool false := congrArg Value.bool (decide_eq_false h)
def eT (a b : Int) : World → Prop := fun _ => (.bool (a == b) : Value) = .bool true
def eF (a b : Int) : World → Prop := fun _ => (.bool (a == b) : Value) = .bool false
theorem qT {a b : Int} (h : a = b) : (.bool (a == b) : Value) = .bool true := congrArg Value.bool (beq_iff_eq.2 h)
theorem qF {a b : Int} (h : ¬ a = b) : (.bool (a == b) : Value) = .bool false := congrArg Value.bool (beq_eq_false_iff_ne.2 h)
end Go.Proofs.Ytnhnipdanpcbeaa.Eng
