/- Copies of slices of bytes. No condition. -/
import Derived.Test.YtajahbpeiifcbaaPBase
import Derived.Test.YtajahbpeiifcbaaTAe1
namespace Go.Proofs.Ytajahbpeiifcbaa.E.TA
open Go.Proofs.Ytajahbpeiifcbaa.E
set_option linter.unusedVariables false
theorem clone_byte (l : List Int) (hl : l.length ≤ 4294967296) : x_slices_Clone_byte l = some (l, ()) := by
  rw [x_slices_Clone_byte_eq, if_pos (show 0 + l.length ≤ room by rw [room_eq]; omega)]
  cases l with
  | nil => exact amb_self _
  | cons a l => rfl
end Go.Proofs.Ytajahbpeiifcbaa.E.TA
