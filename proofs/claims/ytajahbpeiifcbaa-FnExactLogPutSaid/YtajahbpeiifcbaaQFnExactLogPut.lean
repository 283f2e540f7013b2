/- The one pure statement of the law FnExactLogPut: its Lean function answers true at all arguments that a reading gives. No condition beyond that. -/
import Derived.Test.YtajahbpeiifcbaaTBe0
import Derived.Test.YtajahbpeiifcbaaEG4
namespace Go.Proofs.Ytajahbpeiifcbaa.E.TB
open Go.Proofs.Ytajahbpeiifcbaa.E
def PureFnExactLogPut : Prop := ∀ (t0 : laws_Log) (t1 : Int) (t2 : Int) (t3 : (List laws_Entry)), Fine (G := gam) 40 (.nm 4) t0 → Fine (G := gam) 40 (.int .i64) t1 → Fine (G := gam) 40 (.int .i64) t2 → Fine (G := gam) 40 (.sl (.nm 2)) t3 → l_FnExactLogPut t0 t1 t2 t3 = some (true, ())
end Go.Proofs.Ytajahbpeiifcbaa.E.TB
