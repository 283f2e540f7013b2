/- The one pure statement of the law FnExactWorldOk: its Lean function answers true at all arguments that a reading gives. No condition beyond that. -/
import Derived.Test.YtcngnpahpbaagaaGreatDoorTHe0
import Derived.Test.YtcngnpahpbaagaaGreatDoorEG4
namespace Go.Proofs.YtcngnpahpbaagaaGreatDoor.E.TH
open Go.Proofs.YtcngnpahpbaagaaGreatDoor.E
def PureFnExactWorldOk:Prop:=∀ (t0:laws_World),Fine (G:=gam) 40 (.nm 3) t0→l_FnExactWorldOk t0=some (true,())
end Go.Proofs.YtcngnpahpbaagaaGreatDoor.E.TH
