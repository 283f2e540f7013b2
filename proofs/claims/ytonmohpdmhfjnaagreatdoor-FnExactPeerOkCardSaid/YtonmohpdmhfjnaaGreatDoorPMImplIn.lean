/- A number within bounds (the program's). No condition. -/
import Derived.Test.YtonmohpdmhfjnaaGreatDoorPBase
import Derived.Test.YtonmohpdmhfjnaaGreatDoorTMe1
import Derived.Test.YtonmohpdmhfjnaaGreatDoorTMe2
namespace Go.Proofs.YtonmohpdmhfjnaaGreatDoor.E.TM
open Go.Proofs.YtonmohpdmhfjnaaGreatDoor.E
set_option linter.unusedVariables false
theorem i_in_ok (a b c : Int) : i_in a b c = some (decide (b ≤ a ∧ a ≤ c), ()) := by
  rw [i_in_eq]
  by_cases h : a ≥ b
  · rw [if_pos (by simp [h])]; simp [show b ≤ a from h]
  · rw [if_neg (by simp [h])]; simp [show ¬ b ≤ a from h]
end Go.Proofs.YtonmohpdmhfjnaaGreatDoor.E.TM
