/- The pure statement of FnExactNewer. No condition. -/
import Derived.Test.YtajahbpeiifcbaaPALawLog
import Derived.Test.YtajahbpeiifcbaaPATermAt
import Derived.Test.YtajahbpeiifcbaaTAe1
import Derived.Test.YtajahbpeiifcbaaQFnExactNewer
namespace Go.Proofs.Ytajahbpeiifcbaa.E.TA
open Go.Proofs.Ytajahbpeiifcbaa.E
set_option linter.unusedVariables false
theorem pureFnExactNewer : PureFnExactNewer := by
  intro l a b hl ha hb
  rw [l_FnExactNewer_eq]
  obtain ⟨r, e1, h | ⟨h, e2, e3, e4, e5, e6⟩⟩ := law_log l hl
  · rw [e1, Option.bind_some, if_pos (decide_eq_true h)]
  · obtain ⟨y, h1, h2⟩ := newer_same (cLog l) a b (by omega)
    simp only [e1, e2, e6, h1, h2, Option.bind_some]
    simp [h]
end Go.Proofs.Ytajahbpeiifcbaa.E.TA
