/- Marks on disks. No condition. -/
import Derived.Test.YtajahbpeiifcbaaPAMarkBytes
import Derived.Test.YtajahbpeiifcbaaTAe1
namespace Go.Proofs.Ytajahbpeiifcbaa.E.TA
open Go.Proofs.Ytajahbpeiifcbaa.E
set_option linter.unusedVariables false
theorem markDisk_ok (d : impl_Disk) (h : d.Bytes.length ≤ 4294967296) : ∃ k d', l_markDisk d 1 = some (k, d', ()) ∧ (0 ≤ k ∧ k ≤ 4294967297) ∧ l_heldDisk d' 1 = some (k, ()) := by
  refine ⟨1 + d.Bytes.length, ⟨mkd d.Bytes 1 d.Bytes.length, d.Sure⟩, ?_, ⟨by omega, by omega⟩, ?_⟩
  · rw [l_markDisk_eq, markByteS_ok _ _ (by omega) (by omega)]; rfl
  · rw [l_heldDisk_eq, heldByteS_ok _ _ (by omega) (by omega), Option.bind_some, if_neg (by rw [decide_eq_true_eq]; omega)]
end Go.Proofs.Ytajahbpeiifcbaa.E.TA
