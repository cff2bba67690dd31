/- 'laws.FnExactRingJoin' answers true for all arguments. -/
import Derived.Test.YtabdhegmepaeiaaJJoin
import Derived.Test.YtabdhegmepaeiaaOpens
import Derived.Test.YtabdhegmepaeiaaJ9
namespace Go.Proofs.Ytabdhegmepaeiaa
open Go Eng
set_option linter.unusedVariables false
set_option linter.unusedSimpArgs false

theorem law_ev (p1 : T_laws_Ring) (p2 : List Int) (p3 : Bool) (q1 : Q_laws_Ring p1) (q2 : QL (QI .i64) p2) : ∃ k, laws_FnExactRingJoin k p1 p2 p3 = some true := by
  refine Ev.ex (F := fun k => laws_FnExactRingJoin k p1 p2 p3) ?_
  unfold laws_FnExactRingJoin
  by_cases h0 : (p2.length : Int) > 1048576
  · exact Ev.ifp h0 (Ev.pure _)
  · refine Ev.ifn h0 ?_
    obtain ⟨s, es, hs⟩ := szR_ex p1 q1.1.1 (fun x hx => (q1.1.2 x hx).1)
    refine Ev.bind es ?_
    by_cases hsn : s < 0
    · exact Ev.ifp hsn (Ev.pure _)
    · refine Ev.ifn hsn ?_
      have hf : Fits p1.Items := hs.resolve_left hsn
      have hp : p2.length ≤ 2000000 := by omega
      generalize hr : (⟨p1.Items, p1.At⟩ : T_impl_Ring) = r
      have hto : Ev (fun k => laws_toRing k p1) r := hr ▸ toR_ev p1 hf
      have hfr : Fits r.Items := by rw [← hr]; exact hf
      have hg := fits_join (p := p2) (ahead := p3) hfr hp
      have htr := hfr.tot
      have htg := hg.tot
      refine Ev.bind hto (Ev.bind (to_ev p2 hp) (Ev.bind (specJoin_ev r p2 p3 hfr hp) (Ev.bind hto (Ev.bind (to_ev p2 hp) (Ev.bind (implJoin_ev r p2 p3 hfr hp) (Ev.bind (eqR_ev _ hg) (Ev.ifp rfl (Ev.bind hto (Ev.bind (eqR_ev r hfr) (Ev.ifp rfl ?_))))))))))
      refine Ev.bind (to_ev p2 hp) (Ev.bind (eq_ev p2 hp) (Ev.ifp rfl ?_))
      refine Ev.bind (markR_ev r 1 (by decide) hfr (by decide)) ?_
      refine Ev.bind (mark_ev p2 (1 + (tot r.Items : Int)) (by omega) (by omega)) ?_
      refine Ev.ifn (show ¬ (1 + (tot r.Items : Int) + (p2.length : Int)) < 0 by omega) ?_
      refine Ev.bind (eqR_ev _ hg) (Ev.ifp rfl ?_)
      refine Ev.bind (markR_ev _ 1 (by decide) hg (by decide)) ?_
      refine Ev.bind (heldR_ev _ _ 1 (by decide) hg (by decide)) ?_
      refine Ev.ifn (show ¬ (1 + (tot (joinM r p2 p3).Items : Int)) < 0 by omega) (Ev.ifp rfl ?_)
      refine Ev.bind hto (Ev.bind (to_ev p2 hp) (Ev.bind (implJoin_ev r p2 p3 hfr hp) (Ev.bind (eqR_ev _ hg) (Ev.ifp rfl ?_))))
      refine Ev.bind (heldR_ev _ _ 1 (by decide) hg (by decide)) ?_
      exact Ev.ifn (show ¬ (1 + (tot (joinM r p2 p3).Items : Int)) < 0 by omega) (Ev.ifp rfl (Ev.pure _))
end Go.Proofs.Ytabdhegmepaeiaa
