/- The harness at slices of bytes: likeness. No condition. -/
import Derived.Test.YtonmohpdmhfjnaaGreatDoorPBase
import Derived.Test.YtonmohpdmhfjnaaGreatDoorTMe1
import Derived.Test.YtonmohpdmhfjnaaGreatDoorTMe2
namespace Go.Proofs.YtonmohpdmhfjnaaGreatDoor.E.TM
open Go.Proofs.YtonmohpdmhfjnaaGreatDoor.E
set_option linter.unusedVariables false
end Go.Proofs.YtonmohpdmhfjnaaGreatDoor.E.TM
