/- What is marked in a log is held. No condition. -/
import Derived.Test.YtajahbpeiifcbaaPBMarkLog
import Derived.Test.YtajahbpeiifcbaaTBe1
namespace Go.Proofs.Ytajahbpeiifcbaa.E.TB
open Go.Proofs.Ytajahbpeiifcbaa.E
set_option linter.unusedVariables false
theorem heldLog_ok {l : impl_Log} {k r : Int} (h : l_heldEntryS l.List k = some (r, ())) (hr : ¬ r < 0) : l_heldLog l k = some (r, ()) := by
  rw [l_heldLog_eq, h]
  simp [hr]
end Go.Proofs.Ytajahbpeiifcbaa.E.TB
