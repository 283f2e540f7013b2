/- Copies of slices of entries, of logs. No condition. -/
import Derived.Test.YtajahbpeiifcbaaPBase
import Derived.Test.YtajahbpeiifcbaaTLe1
namespace Go.Proofs.Ytajahbpeiifcbaa.E.TL
open Go.Proofs.Ytajahbpeiifcbaa.E
set_option linter.unusedVariables false
theorem clone_Entry (l : List impl_Entry) (hl : l.length ≤ 4294967296) : x_slices_Clone_impl_Entry l = some (l, ()) := by
  rw [x_slices_Clone_impl_Entry_eq, if_pos (show 0 + l.length ≤ room by rw [room_eq]; omega)]
  cases l with
  | nil => exact amb_self _
  | cons a l => rfl
end Go.Proofs.Ytajahbpeiifcbaa.E.TL
