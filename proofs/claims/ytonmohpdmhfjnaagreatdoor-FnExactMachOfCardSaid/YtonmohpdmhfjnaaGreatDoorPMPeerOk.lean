/- What a node keeps, messages, nodes: what is right for the program is right for the reference. No condition but lengths and bytes. -/
import Derived.Test.YtonmohpdmhfjnaaGreatDoorPMMachOk
import Derived.Test.YtonmohpdmhfjnaaGreatDoorPMLogOk
import Derived.Test.YtonmohpdmhfjnaaGreatDoorPMEntries
import Derived.Test.YtonmohpdmhfjnaaGreatDoorPMDiskOk
import Derived.Test.YtonmohpdmhfjnaaGreatDoorTMe1
import Derived.Test.YtonmohpdmhfjnaaGreatDoorTMe2
import Derived.Test.YtonmohpdmhfjnaaGreatDoorTMe3
namespace Go.Proofs.YtonmohpdmhfjnaaGreatDoor.E.TM
open Go.Proofs.YtonmohpdmhfjnaaGreatDoor.E
set_option linter.unusedVariables false
def BMach (m : impl_Mach) : Prop := BState m.State ∧ m.Done.length ≤ 2097152 ∧ m.Out.length ≤ 2097152
end Go.Proofs.YtonmohpdmhfjnaaGreatDoor.E.TM
