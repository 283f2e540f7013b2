/- The one pure statement of the law FnExactMachOf: its Lean function answers true at all arguments that a reading gives. No condition beyond that. -/
import Derived.Test.YtonmohpdmhfjnaaGreatDoorTMe0
import Derived.Test.YtonmohpdmhfjnaaGreatDoorEG4
namespace Go.Proofs.YtonmohpdmhfjnaaGreatDoor.E.TM
open Go.Proofs.YtonmohpdmhfjnaaGreatDoor.E
def PureFnExactMachOf : Prop := ∀ (t0 : laws_Prog) (t1 : (List Int)), Fine (G := gam) 40 (.nm 0) t0 → Fine (G := gam) 40 (.sl (.int .u8)) t1 → l_FnExactMachOf t0 t1 = some (true, ())
end Go.Proofs.YtonmohpdmhfjnaaGreatDoor.E.TM
