/- The one pure statement of the law FnVals: its Lean function answers true at all arguments that a reading gives. No condition beyond that. -/
import Derived.Test.YtlidpmhmchbilaaGreatDoorTVe0
import Derived.Test.YtlidpmhmchbilaaGreatDoorEG4
namespace Go.Proofs.YtlidpmhmchbilaaGreatDoor.E.TV
open Go.Proofs.YtlidpmhmchbilaaGreatDoor.E
def PureFnVals : Prop := ∀ (t0 : (List Int)), Fine (G := gam) 40 (.sl (.int .u8)) t0 → l_FnVals t0 = some (true, ())
end Go.Proofs.YtlidpmhmchbilaaGreatDoor.E.TV
