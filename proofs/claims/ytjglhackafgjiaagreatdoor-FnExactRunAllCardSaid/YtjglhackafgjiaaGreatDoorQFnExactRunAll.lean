/- The one pure statement of the law FnExactRunAll: its Lean function answers true at all arguments that a reading gives. No condition beyond that. -/
import Derived.Test.YtjglhackafgjiaaGreatDoorTAe0
import Derived.Test.YtjglhackafgjiaaGreatDoorEG4
namespace Go.Proofs.YtjglhackafgjiaaGreatDoor.E.TA
open Go.Proofs.YtjglhackafgjiaaGreatDoor.E
def HS:Prop:=∀ (t0:ay) (t1:(List (List Int))),ef (G:=gam) 40 (.nm 0) t0→ef (G:=gam) 40 (.sl .str) t1→wE t0 t1=some (true,())
end Go.Proofs.YtjglhackafgjiaaGreatDoor.E.TA
