/- Whether a disk is right: the program and the reference say the same. No condition. -/
import Derived.Test.YtonmohpdmhfjnaaGreatDoorPMDisk
import Derived.Test.YtonmohpdmhfjnaaGreatDoorPMImplIn
import Derived.Test.YtonmohpdmhfjnaaGreatDoorPMSpecIn
import Derived.Test.YtonmohpdmhfjnaaGreatDoorTMe1
import Derived.Test.YtonmohpdmhfjnaaGreatDoorTMe2
namespace Go.Proofs.YtonmohpdmhfjnaaGreatDoor.E.TM
open Go.Proofs.YtonmohpdmhfjnaaGreatDoor.E
set_option linter.unusedVariables false
def diskOk (d : impl_Disk) : Bool := decide ((d.Bytes.length : Int) ≤ 80000) && decide (0 ≤ d.Sure ∧ d.Sure ≤ (d.Bytes.length : Int))
theorem s_DiskOk_ok (d : impl_Disk) : s_DiskOk d = some (diskOk d, ()) := by
  rw [s_DiskOk_eq, s_l1In_ok]
  unfold diskOk
  by_cases h : (d.Bytes.length : Int) ≤ 80000
  · rw [if_pos (decide_eq_true h), Option.bind_some, decide_eq_true h]; rfl
  · rw [if_neg (by rw [decide_eq_true_eq]; exact h), decide_eq_false h]; rfl
theorem i_DiskOk_ok (d : impl_Disk) : i_DiskOk d = some (diskOk d, ()) := by
  rw [i_DiskOk_eq, i_in_ok]
  unfold diskOk
  by_cases h : (d.Bytes.length : Int) ≤ 80000
  · rw [if_pos (decide_eq_true h), Option.bind_some, decide_eq_true h]; rfl
  · rw [if_neg (by rw [decide_eq_true_eq]; exact h), decide_eq_false h]; rfl
end Go.Proofs.YtonmohpdmhfjnaaGreatDoor.E.TM
