/- The one pure statement of the law FnExactTermAt: its Lean function answers true at all arguments that a reading gives. No condition beyond that. -/
import Derived.Test.YtajahbpeiifcbaaTAe0
import Derived.Test.YtajahbpeiifcbaaEG4
namespace Go.Proofs.Ytajahbpeiifcbaa.E.TA
open Go.Proofs.Ytajahbpeiifcbaa.E
def PureFnExactTermAt : Prop := ∀ (t0 : laws_Log) (t1 : Int), Fine (G := gam) 40 (.nm 4) t0 → Fine (G := gam) 40 (.int .i64) t1 → l_FnExactTermAt t0 t1 = some (true, ())
end Go.Proofs.Ytajahbpeiifcbaa.E.TA
