/- The one pure statement of the law FnExactAppend: its Lean function answers true at all arguments that a reading gives. No condition beyond that. -/
import Derived.Test.YtfafpanihhikoaaTAe0
import Derived.Test.YtfafpanihhikoaaEG4
namespace Go.Proofs.Ytfafpanihhikoaa.E.TA
open Go.Proofs.Ytfafpanihhikoaa.E
def PureFnExactAppend : Prop := ∀ (t0 : laws_Disk) (t1 : (List Int)), Fine (G := gam) 40 (.nm 2) t0 → Fine (G := gam) 40 (.sl (.int .u8)) t1 → l_FnExactAppend t0 t1 = some (true, ())
end Go.Proofs.Ytfafpanihhikoaa.E.TA
