/- Whether a disk is right: the program and the reference say the same. No condition. -/
import Derived.Test.YtfafpanihhikoaaPADisk
import Derived.Test.YtfafpanihhikoaaPAGetNum
import Derived.Test.YtfafpanihhikoaaTAe1
namespace Go.Proofs.Ytfafpanihhikoaa.E.TA
open Go.Proofs.Ytfafpanihhikoaa.E
set_option linter.unusedVariables false
theorem s_l1In_ok (a b c : Int) : s_l1In a b c = some (decide (b ≤ a ∧ a ≤ c), ()) := by
  rw [s_l1In_eq]
  by_cases h : b ≤ a
  · rw [if_pos (by simp [h])]; simp [h]
  · rw [if_neg (by simp [h])]; simp [h]
def diskOk (d : impl_Disk) : Bool := decide ((d.Bytes.length : Int) ≤ 80000) && decide (0 ≤ d.Sure ∧ d.Sure ≤ (d.Bytes.length : Int))
theorem s_DiskOk_ok (d : impl_Disk) : s_DiskOk d = some (diskOk d, ()) := by
  rw [s_DiskOk_eq, s_l1In_ok]
  unfold diskOk
  by_cases h : (d.Bytes.length : Int) ≤ 80000
  · rw [if_pos (decide_eq_true h), Option.bind_some, decide_eq_true h]; rfl
  · rw [if_neg (by rw [decide_eq_true_eq]; exact h), decide_eq_false h]; rfl
theorem i_DiskOk_ok (d : impl_Disk) : i_DiskOk d = some (diskOk d, ()) := by
  rw [i_DiskOk_eq, i_in_ok]
  unfold diskOk
  by_cases h : (d.Bytes.length : Int) ≤ 80000
  · rw [if_pos (decide_eq_true h), Option.bind_some, decide_eq_true h]; rfl
  · rw [if_neg (by rw [decide_eq_true_eq]; exact h), decide_eq_false h]; rfl
theorem diskOk_iff {d : impl_Disk} : diskOk d = true ↔ (d.Bytes.length : Int) ≤ 80000 ∧ 0 ≤ d.Sure ∧ d.Sure ≤ (d.Bytes.length : Int) := by
  unfold diskOk; simp
end Go.Proofs.Ytfafpanihhikoaa.E.TA
