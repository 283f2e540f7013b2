/- The one pure statement of the law FnExactRun: its Lean function answers true at all arguments that a reading gives. No condition beyond that. -/
import Derived.Test.YtijfhaljjmhibaaGreatDoorTVe0
import Derived.Test.YtijfhaljjmhibaaGreatDoorEG4
namespace Go.Proofs.YtijfhaljjmhibaaGreatDoor.E.TV
open Go.Proofs.YtijfhaljjmhibaaGreatDoor.E
def Ir:Prop:=∀ (t0:az) (t1:aA) (t2:(List Int)),b9 (G:=gam) 40 (.nm 0) t0→b9 (G:=gam) 40 (.nm 2) t1→b9 (G:=gam) 40 .str t2→wR t0 t1 t2=some (true,())
end Go.Proofs.YtijfhaljjmhibaaGreatDoor.E.TV
