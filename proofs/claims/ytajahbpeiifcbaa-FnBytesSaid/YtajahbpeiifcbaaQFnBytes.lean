/- The one pure statement of the law FnBytes: its Lean function answers true at all arguments that a reading gives. No condition beyond that. -/
import Derived.Test.YtajahbpeiifcbaaTCe0
import Derived.Test.YtajahbpeiifcbaaEG4
namespace Go.Proofs.Ytajahbpeiifcbaa.E.TC
open Go.Proofs.Ytajahbpeiifcbaa.E
def PureFnBytes : Prop := ∀ (t0 : (List Int)), Fine (G := gam) 40 (.sl (.int .u8)) t0 → l_FnBytes t0 = some (true, ())
end Go.Proofs.Ytajahbpeiifcbaa.E.TC
