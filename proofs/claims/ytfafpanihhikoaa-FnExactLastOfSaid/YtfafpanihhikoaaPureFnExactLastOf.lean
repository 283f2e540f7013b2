/- The pure statement of FnExactLastOf. No condition. -/
import Derived.Test.YtfafpanihhikoaaPALog
import Derived.Test.YtfafpanihhikoaaPALastOf
import Derived.Test.YtfafpanihhikoaaTAe1
import Derived.Test.YtfafpanihhikoaaQFnExactLastOf
namespace Go.Proofs.Ytfafpanihhikoaa.E.TA
open Go.Proofs.Ytfafpanihhikoaa.E
set_option linter.unusedVariables false
theorem pureFnExactLastOf : PureFnExactLastOf := by
  intro l hl
  have hl' := fine_Log hl
  rw [l_FnExactLastOf_eq]
  obtain ⟨r, e1, e2, e3, e4⟩ := szLog_ok l 1048576 (by omega) (by omega) hl'.1 hl'.2
  rw [e1, Option.bind_some]
  by_cases h : r < 0
  · rw [if_pos (decide_eq_true h)]
  · rw [if_neg (by rw [decide_eq_true_eq]; exact h)]
    obtain ⟨n1, n2⟩ := e3 (by omega)
    have hc : (cLog l).List.length ≤ 1048576 := by show (l.List.map cEntry).length ≤ _; rw [List.length_map]; exact n1
    obtain ⟨y, h1, h2⟩ := lastOf_same (cLog l) (by omega)
    simp only [toLog_ok l n1, Option.bind_some, h1, h2, eqLog_ok (cLog l) (by omega)]
    simp
end Go.Proofs.Ytfafpanihhikoaa.E.TA
