/- LastOf of the program and of the reference tell the same. No condition. -/
import Derived.Test.YtajahbpeiifcbaaPLLog
import Derived.Test.YtajahbpeiifcbaaTLe1
namespace Go.Proofs.Ytajahbpeiifcbaa.E.TL
open Go.Proofs.Ytajahbpeiifcbaa.E
set_option linter.unusedVariables false
theorem lastOf_same (l : impl_Log) (hl : l.List.length ≤ 4294967296) : ∃ y, s_LastOf l = some y ∧ i_LastOf l = some y := by
  rw [s_LastOf_eq, i_LastOf_eq, w64_id (n := (l.List.length : Int) - 1) (by omega) (by omega)]
  by_cases h : (l.List.length : Int) = 0
  · rw [if_pos (decide_eq_true h)]; exact ⟨_, rfl, rfl⟩
  · rw [if_neg (by rw [decide_eq_true_eq]; exact h), if_pos (by omega)]; exact ⟨_, rfl, rfl⟩
end Go.Proofs.Ytajahbpeiifcbaa.E.TL
