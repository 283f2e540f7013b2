/- Copies of logs. No condition. -/
import Derived.Test.YtajahbpeiifcbaaPLCloneEntry
import Derived.Test.YtajahbpeiifcbaaTLe1
namespace Go.Proofs.Ytajahbpeiifcbaa.E.TL
open Go.Proofs.Ytajahbpeiifcbaa.E
set_option linter.unusedVariables false
theorem copyLog_ok (l : impl_Log) (hl : l.List.length ≤ 4294967296) : s_l18Copy l = some (l, ()) := by
  rw [s_l18Copy_eq, if_pos (by rw [room_eq]; omega)]; rfl
theorem cloneLog_ok (l : impl_Log) (hl : l.List.length ≤ 4294967296) : i_cloneLog l = some (l, ()) := by
  rw [i_cloneLog_eq, clone_Entry _ hl]; rfl
end Go.Proofs.Ytajahbpeiifcbaa.E.TL
