/- The one pure statement of the law FnMachBytes: its Lean function answers true at all arguments that a reading gives. No condition beyond that. -/
import Derived.Test.YtemajhlhgphhjaaGreatDoorTMe0
import Derived.Test.YtemajhlhgphhjaaGreatDoorEG4
namespace Go.Proofs.YtemajhlhgphhjaaGreatDoor.E.TM
open Go.Proofs.YtemajhlhgphhjaaGreatDoor.E
def Mq:Prop:=∀ (t0:(List Int)),oQ (G:=gam) 40 (.sl (.int .u8)) t0→xe t0=some (true,())
end Go.Proofs.YtemajhlhgphhjaaGreatDoor.E.TM
