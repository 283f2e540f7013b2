/- The one pure statement of the law FnExactHardNew: its Lean function answers true at all arguments that a reading gives. No condition beyond that. -/
import Derived.Test.YthgknhkeifcflaaGreatDoorTGe0
import Derived.Test.YthgknhkeifcflaaGreatDoorEG4
namespace Go.Proofs.YthgknhkeifcflaaGreatDoor.E.TG
open Go.Proofs.YthgknhkeifcflaaGreatDoor.E
def I0:Prop:=∀ (t0:bM),fN (G:=gam) 40 (.nm 0) t0→xJ t0=some (true,())
end Go.Proofs.YthgknhkeifcflaaGreatDoor.E.TG
