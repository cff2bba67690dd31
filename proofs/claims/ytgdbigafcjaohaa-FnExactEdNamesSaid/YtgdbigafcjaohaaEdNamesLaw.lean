/- 'laws.FnExactEdNames' answers true: reckoned. -/
import Derived.Test.YtgdbigafcjaohaaG11
import Derived.Test.YtgdbigafcjaohaaEng14
namespace Go.Proofs.Ytgdbigafcjaohaa
open Go Eng
set_option maxRecDepth 1000000 in
theorem law_ev : ∃ k, laws_FnExactEdNames k = some true := ⟨120, by kernel_rfl⟩
end Go.Proofs.Ytgdbigafcjaohaa
