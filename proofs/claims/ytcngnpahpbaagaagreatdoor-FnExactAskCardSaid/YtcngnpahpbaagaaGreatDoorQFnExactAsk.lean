/- The one pure statement of the law FnExactAsk: its Lean function answers true at all arguments that a reading gives. No condition beyond that. -/
import Derived.Test.YtcngnpahpbaagaaGreatDoorTHe0
import Derived.Test.YtcngnpahpbaagaaGreatDoorEG4
namespace Go.Proofs.YtcngnpahpbaagaaGreatDoor.E.TH
open Go.Proofs.YtcngnpahpbaagaaGreatDoor.E
def PureFnExactAsk:Prop:=∀ (t0:laws_Prog) (t1:laws_Peer) (t2:Int),Fine (G:=gam) 40 (.nm 0) t0→Fine (G:=gam) 40 (.nm 4) t1→Fine (G:=gam) 40 (.int .i64) t2→l_FnExactAsk t0 t1 t2=some (true,())
end Go.Proofs.YtcngnpahpbaagaaGreatDoor.E.TH
