/- The one pure statement of the law FnExactRunStart: its Lean function answers true at all arguments that a reading gives. No condition beyond that. -/
import Derived.Test.YtjglhackafgjiaaGreatDoorTBe0
import Derived.Test.YtjglhackafgjiaaGreatDoorEG4
namespace Go.Proofs.YtjglhackafgjiaaGreatDoor.E.TB
open Go.Proofs.YtjglhackafgjiaaGreatDoor.E
def Ha:Prop:=∀ (t0:ay),en (G:=gam) 40 (.nm 0) t0→v7 t0=some (true,())
end Go.Proofs.YtjglhackafgjiaaGreatDoor.E.TB
