/- The one pure statement of the law FnExactMachDo: its Lean function answers true at all arguments that a reading gives. No condition beyond that. -/
import Derived.Test.YthgknhkeifcflaaGreatDoorTDe0
import Derived.Test.YthgknhkeifcflaaGreatDoorEG4
namespace Go.Proofs.YthgknhkeifcflaaGreatDoor.E.TD
open Go.Proofs.YthgknhkeifcflaaGreatDoor.E
def Ks:Prop:=∀ (t0:bN) (t1:bL) (t2:bK),df (G:=gam) 40 (.nm 0) t0→df (G:=gam) 40 (.nm 15) t1→df (G:=gam) 40 (.nm 16) t2→yF t0 t1 t2=some (true,())
end Go.Proofs.YthgknhkeifcflaaGreatDoor.E.TD
