/- The pure statement of FnExactRead. No condition. -/
import Derived.Test.YtlidpmhmchbilaaDoorPARead
import Derived.Test.YtlidpmhmchbilaaDoorTAe1
import Derived.Test.YtlidpmhmchbilaaDoorQFnExactRead
namespace Go.Proofs.YtlidpmhmchbilaaDoor.E.TA
open Go.Proofs.YtlidpmhmchbilaaDoor.E
set_option linter.unusedVariables false
theorem pureFnExactRead : PureFnExactRead := by
  intro s hs
  have hs' : s.length ≤ 9223372036854775807 ∧ ∀ b ∈ s, 0 ≤ b ∧ b ≤ 255 := hs
  rw [l_FnExactRead_eq]
  by_cases h : (s.length : Int) > 1048576
  · rw [if_pos (decide_eq_true h)]
  · rw [if_neg (by rw [decide_eq_true_eq]; exact h)]
    obtain ⟨v, k1, k2⟩ := read_same s hs'.1 hs'.2
    rw [k1, k2, Option.bind_some, Option.bind_some, l_eqVal_eq]
    simp
end Go.Proofs.YtlidpmhmchbilaaDoor.E.TA
