/- The one pure statement of the law FnExactRpcOk: its Lean function answers true at all arguments that a reading gives. No condition beyond that. -/
import Derived.Test.YtajahbpeiifcbaaTBe0
import Derived.Test.YtajahbpeiifcbaaEG4
namespace Go.Proofs.Ytajahbpeiifcbaa.E.TB
open Go.Proofs.Ytajahbpeiifcbaa.E
def PureFnExactRpcOk : Prop := ∀ (t0 : laws_Rpc) (t1 : Int), Fine (G := gam) 40 (.nm 8) t0 → Fine (G := gam) 40 (.int .i64) t1 → l_FnExactRpcOk t0 t1 = some (true, ())
end Go.Proofs.Ytajahbpeiifcbaa.E.TB
