/- The one pure statement of the law FnExactRecOk: its Lean function answers true at all arguments that a reading gives. No condition beyond that. -/
import Derived.Test.YtajahbpeiifcbaaTBe0
import Derived.Test.YtajahbpeiifcbaaEG4
namespace Go.Proofs.Ytajahbpeiifcbaa.E.TB
open Go.Proofs.Ytajahbpeiifcbaa.E
def PureFnExactRecOk : Prop := ∀ (t0 : laws_Rec), Fine (G := gam) 40 (.nm 10) t0 → l_FnExactRecOk t0 = some (true, ())
end Go.Proofs.Ytajahbpeiifcbaa.E.TB
