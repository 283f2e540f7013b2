/- The one pure statement of the law FnExactPropose: its Lean function answers true at all arguments that a reading gives. No condition beyond that. -/
import Derived.Test.YtcngnpahpbaagaaGreatDoorTHe0
import Derived.Test.YtcngnpahpbaagaaGreatDoorEG4
namespace Go.Proofs.YtcngnpahpbaagaaGreatDoor.E.TH
open Go.Proofs.YtcngnpahpbaagaaGreatDoor.E
def PureFnExactPropose:Prop:=∀ (t0:laws_Prog) (t1:laws_Peer) (t2:Int) (t3:laws_Cmd),Fine (G:=gam) 40 (.nm 0) t0→Fine (G:=gam) 40 (.nm 4) t1→Fine (G:=gam) 40 (.int .i64) t2→Fine (G:=gam) 40 (.nm 8) t3→l_FnExactPropose t0 t1 t2 t3=some (true,())
end Go.Proofs.YtcngnpahpbaagaaGreatDoor.E.TH
