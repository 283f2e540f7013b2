/- Indexes. No condition. -/
import Derived.Test.YtonmohpdmhfjnaaGreatDoorPMImplIn
import Derived.Test.YtonmohpdmhfjnaaGreatDoorTMe1
import Derived.Test.YtonmohpdmhfjnaaGreatDoorTMe2
namespace Go.Proofs.YtonmohpdmhfjnaaGreatDoor.E.TM
open Go.Proofs.YtonmohpdmhfjnaaGreatDoor.E
set_option linter.unusedVariables false
theorem isIndex_ok (n : Int) : i_isIndex n = some (decide (0 ≤ n ∧ n ≤ 300), ()) := by rw [i_isIndex_eq, i_in_ok]; rfl
end Go.Proofs.YtonmohpdmhfjnaaGreatDoor.E.TM
