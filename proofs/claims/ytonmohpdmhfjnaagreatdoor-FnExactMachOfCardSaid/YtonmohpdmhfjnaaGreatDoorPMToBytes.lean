/- The harness at slices of bytes: copies. No condition. -/
import Derived.Test.YtonmohpdmhfjnaaGreatDoorPBase
import Derived.Test.YtonmohpdmhfjnaaGreatDoorTMe1
import Derived.Test.YtonmohpdmhfjnaaGreatDoorTMe2
import Derived.Test.YtonmohpdmhfjnaaGreatDoorTMe3
namespace Go.Proofs.YtonmohpdmhfjnaaGreatDoor.E.TM
open Go.Proofs.YtonmohpdmhfjnaaGreatDoor.E
set_option linter.unusedVariables false
theorem toByteS_ok (l : List Int) (hl : l.length ≤ 1048576) : l_toByteS l = some (l, ()) := by
  rw [l_toByteS_eq, if_pos (by rw [room_eq]; omega)]
  have := to_loop (fun acc i => l_toByteS_L1 l acc i) id l (fun acc i h ha => by
    show l_toByteS_L1 l acc i = _
    rw [l_toByteS_L1_eq, if_pos (decide_eq_true (by omega)), if_pos (by omega), if_pos (by omega), w64_succ h (by omega), getD_nat h, Int.toNat_natCast]
    rfl) (fun acc ha => by
    show l_toByteS_L1 l acc _ = _
    rw [l_toByteS_L1_eq, if_neg (by simp)]) (List.replicate (List.length l : Int).toNat 0) (by simp)
  rw [List.map_id] at this
  exact this
end Go.Proofs.YtonmohpdmhfjnaaGreatDoor.E.TM
