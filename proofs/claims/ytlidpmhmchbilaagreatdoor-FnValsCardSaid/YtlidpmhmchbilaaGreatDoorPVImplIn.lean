/- A number within bounds (the program's). No condition. -/
import Derived.Test.YtlidpmhmchbilaaGreatDoorPBase
import Derived.Test.YtlidpmhmchbilaaGreatDoorTVe1
namespace Go.Proofs.YtlidpmhmchbilaaGreatDoor.E.TV
open Go.Proofs.YtlidpmhmchbilaaGreatDoor.E
set_option linter.unusedVariables false
theorem i_in_ok (a b c : Int) : i_in a b c = some (decide (b ≤ a ∧ a ≤ c), ()) := by
  rw [i_in_eq]
  by_cases h : a ≥ b
  · rw [if_pos (by simp [h])]; simp [show b ≤ a from h]
  · rw [if_neg (by simp [h])]; simp [show ¬ b ≤ a from h]
end Go.Proofs.YtlidpmhmchbilaaGreatDoor.E.TV
