/- The pure statement of FnExactTermAt. No condition. -/
import Derived.Test.YtajahbpeiifcbaaPALawLog
import Derived.Test.YtajahbpeiifcbaaPATermAt
import Derived.Test.YtajahbpeiifcbaaTAe1
import Derived.Test.YtajahbpeiifcbaaQFnExactTermAt
namespace Go.Proofs.Ytajahbpeiifcbaa.E.TA
open Go.Proofs.Ytajahbpeiifcbaa.E
set_option linter.unusedVariables false
theorem pureFnExactTermAt : PureFnExactTermAt := by
  intro l i hl hi
  rw [l_FnExactTermAt_eq]
  obtain ⟨r, e1, h | ⟨h, e2, e3, e4, e5, e6⟩⟩ := law_log l hl
  · rw [e1, Option.bind_some, if_pos (decide_eq_true h)]
  · obtain ⟨y, h1, h2, _⟩ := termAt_same (cLog l) i (by omega) e4 (fineI hi)
    simp only [e1, e2, e6, h1, h2, Option.bind_some]
    simp [h]
end Go.Proofs.Ytajahbpeiifcbaa.E.TA
