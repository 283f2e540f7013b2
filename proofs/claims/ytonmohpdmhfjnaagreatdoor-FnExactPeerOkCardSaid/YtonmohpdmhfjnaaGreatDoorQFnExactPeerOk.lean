/- The one pure statement of the law FnExactPeerOk: its Lean function answers true at all arguments that a reading gives. No condition beyond that. -/
import Derived.Test.YtonmohpdmhfjnaaGreatDoorTMe0
import Derived.Test.YtonmohpdmhfjnaaGreatDoorEG4
namespace Go.Proofs.YtonmohpdmhfjnaaGreatDoor.E.TM
open Go.Proofs.YtonmohpdmhfjnaaGreatDoor.E
def PureFnExactPeerOk : Prop := ∀ (t0 : laws_Prog) (t1 : laws_Peer) (t2 : Int), Fine (G := gam) 40 (.nm 0) t0 → Fine (G := gam) 40 (.nm 21) t1 → Fine (G := gam) 40 (.int .i64) t2 → l_FnExactPeerOk t0 t1 t2 = some (true, ())
end Go.Proofs.YtonmohpdmhfjnaaGreatDoor.E.TM
