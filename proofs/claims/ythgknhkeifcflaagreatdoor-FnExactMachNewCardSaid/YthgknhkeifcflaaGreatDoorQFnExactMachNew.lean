/- The one pure statement of the law FnExactMachNew: its Lean function answers true at all arguments that a reading gives. No condition beyond that. -/
import Derived.Test.YthgknhkeifcflaaGreatDoorTFe0
import Derived.Test.YthgknhkeifcflaaGreatDoorEG4
namespace Go.Proofs.YthgknhkeifcflaaGreatDoor.E.TF
open Go.Proofs.YthgknhkeifcflaaGreatDoor.E
def Iy:Prop:=∀ (t0:bM),fL (G:=gam) 40 (.nm 0) t0→xt t0=some (true,())
end Go.Proofs.YthgknhkeifcflaaGreatDoor.E.TF
