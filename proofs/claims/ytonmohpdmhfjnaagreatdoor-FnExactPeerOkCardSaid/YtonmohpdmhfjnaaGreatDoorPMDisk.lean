/- The harness at disks; copies of disks; whether a disk is right. No condition. -/
import Derived.Test.YtonmohpdmhfjnaaGreatDoorPMToBytes
import Derived.Test.YtonmohpdmhfjnaaGreatDoorPMEqBytes
import Derived.Test.YtonmohpdmhfjnaaGreatDoorPMClone
import Derived.Test.YtonmohpdmhfjnaaGreatDoorTMe1
import Derived.Test.YtonmohpdmhfjnaaGreatDoorTMe2
namespace Go.Proofs.YtonmohpdmhfjnaaGreatDoor.E.TM
open Go.Proofs.YtonmohpdmhfjnaaGreatDoor.E
set_option linter.unusedVariables false
end Go.Proofs.YtonmohpdmhfjnaaGreatDoor.E.TM
