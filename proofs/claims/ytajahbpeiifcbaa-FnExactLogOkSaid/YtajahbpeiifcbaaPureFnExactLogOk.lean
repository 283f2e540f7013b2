/- The pure statement of FnExactLogOk. No condition. -/
import Derived.Test.YtajahbpeiifcbaaPBLawLog
import Derived.Test.YtajahbpeiifcbaaPBLogOk
import Derived.Test.YtajahbpeiifcbaaTBe1
import Derived.Test.YtajahbpeiifcbaaQFnExactLogOk
namespace Go.Proofs.Ytajahbpeiifcbaa.E.TB
open Go.Proofs.Ytajahbpeiifcbaa.E
set_option linter.unusedVariables false
theorem pureFnExactLogOk : PureFnExactLogOk := by
  intro l hl
  rw [l_FnExactLogOk_eq]
  obtain ⟨r, e1, h | ⟨h, e2, e3, e4, e5, e6⟩⟩ := law_log l hl
  · rw [e1, Option.bind_some, if_pos (decide_eq_true h)]
  · have hw : LinesOk (cLog l).List := lines_map (fine_Log hl).2
    simp only [e1, e2, e6, s_LogOk_ok (cLog l) (by omega) hw, i_LogOk_ok (cLog l) (by omega), Option.bind_some]
    simp [h]
end Go.Proofs.Ytajahbpeiifcbaa.E.TB
