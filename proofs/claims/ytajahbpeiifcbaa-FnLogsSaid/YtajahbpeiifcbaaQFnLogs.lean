/- The one pure statement of the law FnLogs: its Lean function answers true at all arguments that a reading gives. No condition beyond that. -/
import Derived.Test.YtajahbpeiifcbaaTLe0
import Derived.Test.YtajahbpeiifcbaaEG4
namespace Go.Proofs.Ytajahbpeiifcbaa.E.TL
open Go.Proofs.Ytajahbpeiifcbaa.E
def PureFnLogs : Prop := ∀ (t0 : (List Int)), Fine (G := gam) 40 (.sl (.int .u8)) t0 → l_FnLogs t0 = some (true, ())
end Go.Proofs.Ytajahbpeiifcbaa.E.TL
