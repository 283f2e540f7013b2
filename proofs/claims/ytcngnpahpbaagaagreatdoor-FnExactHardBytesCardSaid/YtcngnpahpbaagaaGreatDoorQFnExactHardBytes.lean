/- The one pure statement of the law FnExactHardBytes: its Lean function answers true at all arguments that a reading gives. No condition beyond that. -/
import Derived.Test.YtcngnpahpbaagaaGreatDoorTHe0
import Derived.Test.YtcngnpahpbaagaaGreatDoorEG4
namespace Go.Proofs.YtcngnpahpbaagaaGreatDoor.E.TH
open Go.Proofs.YtcngnpahpbaagaaGreatDoor.E
def PureFnExactHardBytes:Prop:=∀ (t0:laws_Prog) (t1:laws_Hard),Fine (G:=gam) 40 (.nm 0) t0→Fine (G:=gam) 40 (.nm 5) t1→l_FnExactHardBytes t0 t1=some (true,())
end Go.Proofs.YtcngnpahpbaagaaGreatDoor.E.TH
