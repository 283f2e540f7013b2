/- The one pure statement of the law FnExactLastOf: its Lean function answers true at all arguments that a reading gives. No condition beyond that. -/
import Derived.Test.YtfafpanihhikoaaTAe0
import Derived.Test.YtfafpanihhikoaaEG4
namespace Go.Proofs.Ytfafpanihhikoaa.E.TA
open Go.Proofs.Ytfafpanihhikoaa.E
def PureFnExactLastOf : Prop := ∀ (t0 : laws_Log), Fine (G := gam) 40 (.nm 6) t0 → l_FnExactLastOf t0 = some (true, ())
end Go.Proofs.Ytfafpanihhikoaa.E.TA
