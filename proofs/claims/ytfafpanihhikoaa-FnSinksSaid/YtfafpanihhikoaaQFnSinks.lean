/- The one pure statement of the law FnSinks: its Lean function answers true at all arguments that a reading gives. No condition beyond that. -/
import Derived.Test.YtfafpanihhikoaaTSe0
import Derived.Test.YtfafpanihhikoaaEG4
namespace Go.Proofs.Ytfafpanihhikoaa.E.TS
open Go.Proofs.Ytfafpanihhikoaa.E
def PureFnSinks : Prop := ∀ (t0 : (List Int)), Fine (G := gam) 40 (.sl (.int .u8)) t0 → l_FnSinks t0 = some (true, ())
end Go.Proofs.Ytfafpanihhikoaa.E.TS
