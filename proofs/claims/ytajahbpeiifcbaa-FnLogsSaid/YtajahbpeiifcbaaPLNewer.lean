/- Newer of the program and of the reference tell the same. No condition. -/
import Derived.Test.YtajahbpeiifcbaaPLLastOf
import Derived.Test.YtajahbpeiifcbaaTLe1
namespace Go.Proofs.Ytajahbpeiifcbaa.E.TL
open Go.Proofs.Ytajahbpeiifcbaa.E
set_option linter.unusedVariables false
theorem newer_same (l : impl_Log) (a b : Int) (hl : l.List.length ≤ 4294967296) : ∃ y, s_Newer l a b = some y ∧ i_Newer l a b = some y := by
  obtain ⟨y, h1, h2⟩ := lastOf_same l hl
  rw [s_Newer_eq, i_Newer_eq, h1, h2]
  simp only [Option.bind_some]
  by_cases c1 : b > y.2.1
  · rw [if_pos (decide_eq_true c1)]; exact ⟨_, rfl, rfl⟩
  · rw [if_neg (by rw [decide_eq_true_eq]; exact c1)]
    by_cases c2 : b = y.2.1
    · rw [if_pos (decide_eq_true c2)]; exact ⟨_, rfl, rfl⟩
    · rw [if_neg (by rw [decide_eq_true_eq]; exact c2)]; exact ⟨_, rfl, rfl⟩
end Go.Proofs.Ytajahbpeiifcbaa.E.TL
