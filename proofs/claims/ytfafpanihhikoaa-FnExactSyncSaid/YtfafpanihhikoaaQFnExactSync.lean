/- The one pure statement of the law FnExactSync: its Lean function answers true at all arguments that a reading gives. No condition beyond that. -/
import Derived.Test.YtfafpanihhikoaaTAe0
import Derived.Test.YtfafpanihhikoaaEG4
namespace Go.Proofs.Ytfafpanihhikoaa.E.TA
open Go.Proofs.Ytfafpanihhikoaa.E
def PureFnExactSync : Prop := ∀ (t0 : laws_Disk), Fine (G := gam) 40 (.nm 2) t0 → l_FnExactSync t0 = some (true, ())
end Go.Proofs.Ytfafpanihhikoaa.E.TA
