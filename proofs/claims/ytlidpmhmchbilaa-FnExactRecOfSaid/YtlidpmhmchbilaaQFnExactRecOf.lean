/- The one pure statement of the law FnExactRecOf: its Lean function answers true at all arguments that a reading gives. No condition beyond that. -/
import Derived.Test.YtlidpmhmchbilaaTAe0
import Derived.Test.YtlidpmhmchbilaaEG4
namespace Go.Proofs.Ytlidpmhmchbilaa.E.TA
open Go.Proofs.Ytlidpmhmchbilaa.E
def PureFnExactRecOf : Prop := ∀ (t0 : (List Int)) (t1 : Int), Fine (G := gam) 40 (.sl (.int .u8)) t0 → Fine (G := gam) 40 (.int .i64) t1 → l_FnExactRecOf t0 t1 = some (true, ())
end Go.Proofs.Ytlidpmhmchbilaa.E.TA
