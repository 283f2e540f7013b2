/- Copies of slices of bytes. No condition. -/
import Derived.Test.YtfafpanihhikoaaPBase
import Derived.Test.YtfafpanihhikoaaTAe1
namespace Go.Proofs.Ytfafpanihhikoaa.E.TA
open Go.Proofs.Ytfafpanihhikoaa.E
set_option linter.unusedVariables false
theorem clone_byte (l : List Int) (hl : l.length ≤ 4294967296) : x_slices_Clone_byte_byte l = some (l, ()) := by
  rw [x_slices_Clone_byte_byte_eq, if_pos (show 0 + l.length ≤ room by rw [room_eq]; omega)]
  cases l with
  | nil => exact amb_self _
  | cons a l => rfl
end Go.Proofs.Ytfafpanihhikoaa.E.TA
