/- A number within bounds (the reference's). No condition. -/
import Derived.Test.YtajahbpeiifcbaaPBase
import Derived.Test.YtajahbpeiifcbaaTCe1
namespace Go.Proofs.Ytajahbpeiifcbaa.E.TC
open Go.Proofs.Ytajahbpeiifcbaa.E
set_option linter.unusedVariables false
theorem s_l1In_ok (a b c : Int) : s_l1In a b c = some (decide (b ≤ a ∧ a ≤ c), ()) := by
  rw [s_l1In_eq]
  by_cases h : b ≤ a
  · rw [if_pos (by simp [h])]; simp [h]
  · rw [if_neg (by simp [h])]; simp [h]
end Go.Proofs.Ytajahbpeiifcbaa.E.TC
