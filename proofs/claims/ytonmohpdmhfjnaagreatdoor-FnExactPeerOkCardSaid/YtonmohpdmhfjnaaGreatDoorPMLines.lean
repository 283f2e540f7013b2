/- Lines of entries. No condition. -/
import Derived.Test.YtonmohpdmhfjnaaGreatDoorPBase
import Derived.Test.YtonmohpdmhfjnaaGreatDoorTMe1
import Derived.Test.YtonmohpdmhfjnaaGreatDoorTMe2
namespace Go.Proofs.YtonmohpdmhfjnaaGreatDoor.E.TM
open Go.Proofs.YtonmohpdmhfjnaaGreatDoor.E
set_option linter.unusedVariables false
def LinesOk (l : List impl_Entry) : Prop := ∀ e ∈ l, e.C.Line.length ≤ 9223372036854775807
end Go.Proofs.YtonmohpdmhfjnaaGreatDoor.E.TM
