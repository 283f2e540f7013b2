/- The one pure statement of the law FnExactGetText: its Lean function answers true at all arguments that a reading gives. No condition beyond that. -/
import Derived.Test.YtfafpanihhikoaaTAe0
import Derived.Test.YtfafpanihhikoaaEG4
namespace Go.Proofs.Ytfafpanihhikoaa.E.TA
open Go.Proofs.Ytfafpanihhikoaa.E
def PureFnExactGetText : Prop := ∀ (t0 : (List Int)) (t1 : Int), Fine (G := gam) 40 (.sl (.int .u8)) t0 → Fine (G := gam) 40 (.int .i64) t1 → l_FnExactGetText t0 t1 = some (true, ())
end Go.Proofs.Ytfafpanihhikoaa.E.TA
