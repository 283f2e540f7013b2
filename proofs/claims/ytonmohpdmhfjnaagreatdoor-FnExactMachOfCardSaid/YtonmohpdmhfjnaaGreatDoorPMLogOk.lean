/- Whether a log is right: the program and the reference say the same. No condition. -/
import Derived.Test.YtonmohpdmhfjnaaGreatDoorPMCmdOk
import Derived.Test.YtonmohpdmhfjnaaGreatDoorPMIsIndex
import Derived.Test.YtonmohpdmhfjnaaGreatDoorPMLines
import Derived.Test.YtonmohpdmhfjnaaGreatDoorTMe1
import Derived.Test.YtonmohpdmhfjnaaGreatDoorTMe2
import Derived.Test.YtonmohpdmhfjnaaGreatDoorTMe3
namespace Go.Proofs.YtonmohpdmhfjnaaGreatDoor.E.TM
open Go.Proofs.YtonmohpdmhfjnaaGreatDoor.E
set_option linter.unusedVariables false
end Go.Proofs.YtonmohpdmhfjnaaGreatDoor.E.TM
