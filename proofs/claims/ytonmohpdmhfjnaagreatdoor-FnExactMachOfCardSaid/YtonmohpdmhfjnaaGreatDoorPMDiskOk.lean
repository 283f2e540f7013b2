/- Whether a disk is right: the program and the reference say the same. No condition. -/
import Derived.Test.YtonmohpdmhfjnaaGreatDoorPMDisk
import Derived.Test.YtonmohpdmhfjnaaGreatDoorPMImplIn
import Derived.Test.YtonmohpdmhfjnaaGreatDoorPMSpecIn
import Derived.Test.YtonmohpdmhfjnaaGreatDoorTMe1
import Derived.Test.YtonmohpdmhfjnaaGreatDoorTMe2
import Derived.Test.YtonmohpdmhfjnaaGreatDoorTMe3
namespace Go.Proofs.YtonmohpdmhfjnaaGreatDoor.E.TM
open Go.Proofs.YtonmohpdmhfjnaaGreatDoor.E
set_option linter.unusedVariables false
end Go.Proofs.YtonmohpdmhfjnaaGreatDoor.E.TM
