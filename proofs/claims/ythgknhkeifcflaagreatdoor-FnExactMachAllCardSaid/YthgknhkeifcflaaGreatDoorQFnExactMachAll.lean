/- The one pure statement of the law FnExactMachAll: its Lean function answers true at all arguments that a reading gives. No condition beyond that. -/
import Derived.Test.YthgknhkeifcflaaGreatDoorTEe0
import Derived.Test.YthgknhkeifcflaaGreatDoorEG4
namespace Go.Proofs.YthgknhkeifcflaaGreatDoor.E.TE
open Go.Proofs.YthgknhkeifcflaaGreatDoor.E
def Ka:Prop:=∀ (t0:bM) (t1:(List bJ)),fb (G:=gam) 40 (.nm 0) t0→fb (G:=gam) 40 (.sl (.nm 16)) t1→yw t0 t1=some (true,())
end Go.Proofs.YthgknhkeifcflaaGreatDoor.E.TE
