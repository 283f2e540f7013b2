/- Marks on slices of texts, not held afterwards. No condition but lengths. -/
import Derived.Test.YtonmohpdmhfjnaaGreatDoorPMHStr
import Derived.Test.YtonmohpdmhfjnaaGreatDoorTMe1
import Derived.Test.YtonmohpdmhfjnaaGreatDoorTMe2
namespace Go.Proofs.YtonmohpdmhfjnaaGreatDoor.E.TM
open Go.Proofs.YtonmohpdmhfjnaaGreatDoor.E
set_option linter.unusedVariables false
end Go.Proofs.YtonmohpdmhfjnaaGreatDoor.E.TM
