/- A number within bounds (the reference's). No condition. -/
import Derived.Test.YtonmohpdmhfjnaaGreatDoorPBase
import Derived.Test.YtonmohpdmhfjnaaGreatDoorTMe1
import Derived.Test.YtonmohpdmhfjnaaGreatDoorTMe2
namespace Go.Proofs.YtonmohpdmhfjnaaGreatDoor.E.TM
open Go.Proofs.YtonmohpdmhfjnaaGreatDoor.E
set_option linter.unusedVariables false
theorem s_l1In_ok (a b c : Int) : s_l1In a b c = some (decide (b ≤ a ∧ a ≤ c), ()) := by
  rw [s_l1In_eq]
  by_cases h : b ≤ a
  · rw [if_pos (by simp [h])]; simp [h]
  · rw [if_neg (by simp [h])]; simp [h]
end Go.Proofs.YtonmohpdmhfjnaaGreatDoor.E.TM
