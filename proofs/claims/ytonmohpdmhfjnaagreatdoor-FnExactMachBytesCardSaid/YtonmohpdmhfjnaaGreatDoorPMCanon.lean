/- What is read of bytes is written as those bytes. No condition. -/
import Derived.Test.YtonmohpdmhfjnaaGreatDoorPMGetNum
import Derived.Test.YtonmohpdmhfjnaaGreatDoorPMPutNum
import Derived.Test.YtonmohpdmhfjnaaGreatDoorTMe1
import Derived.Test.YtonmohpdmhfjnaaGreatDoorTMe2
import Derived.Test.YtonmohpdmhfjnaaGreatDoorTMe3
namespace Go.Proofs.YtonmohpdmhfjnaaGreatDoor.E.TM
open Go.Proofs.YtonmohpdmhfjnaaGreatDoor.E
set_option linter.unusedVariables false
end Go.Proofs.YtonmohpdmhfjnaaGreatDoor.E.TM
