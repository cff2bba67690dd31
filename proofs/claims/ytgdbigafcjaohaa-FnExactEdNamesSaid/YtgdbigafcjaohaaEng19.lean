/- The engine, part 19: from a contract to a row's form: laws without arguments. -/
import Derived.Test.YtgdbigafcjaohaaEng14
namespace Go.Proofs.Ytgdbigafcjaohaa.Eng
open Go Go.ChangeShapes Go.WideShapes Go.ChangeAt Go.RowKit

theorem law_none {P : Program} {H : Type} {enc : TypeId × Value → H} {f : FuncId} {fn : Func} {s : ChangeSpec} {W : World} {args : Array Value} {ds gs : List (DataW H)} {before : List MemPlace} {r : TypeId}
    (hp : fn.params = #[]) (hrt : fn.resultTypes = #[r]) (hr : P.underlying r = some .bool) (hvars : s.vars = []) (hs : s.fn H [] = { results := [.lit (.bool true)], args := [] })
    (hW : DataW.Whole enc P fn.params.toList s.vars false W args.toList ds gs before)
    (hf : Meets P f ([] : List Value).toArray (fun b => W.heap[b]?) [] (fun v _ M => v = .bool true ∧ M = [])) :
    Calls P f args W fun e W' => ∃ v, e = .returned v ∧ s.post enc P fn false true false false W args v W' := by
  have hW' := hW
  obtain ⟨p, q, hA, hV, rfl, hfz, hnd⟩ := hW
  rw [hp] at hA
  rw [hvars] at hV
  obtain ⟨hargs, rfl, rfl⟩ := trodAll_nil hA
  obtain rfl : args = #[] := by cases args; simp_all
  obtain ⟨rfl, rfl⟩ := trodVars_none hV
  refine (hf W W [] (by simpa using sat_whole W)).mono ?_
  rintro e W' ⟨v, J, M, rfl, ⟨rfl, rfl⟩, hi, hs'⟩
  have hbel := below_of hs' hi
  refine ⟨_, rfl, [], [], _, [], [] ++ [], [], hW', ?_, ?_, ?_, hbel.frame _, fun h => by cases h⟩
  · rw [hrt]
    show DataW.TrodAll _ _ _ _ _ _ _ _ (s.fn H []).results []
    rw [hs]
    exact trodAll_mk1 (shut_bool hr _)
  · rw [hp]
    show DataW.TrodAll _ _ _ _ _ _ _ _ (s.fn H []).args _
    rw [hs]
    exact trodAll_mk0
  · rw [hvars]
    show DataW.TrodVars _ _ _ _ _ (s.fn H []).vars _
    rw [hs]
    trivial
end Go.Proofs.Ytgdbigafcjaohaa.Eng
