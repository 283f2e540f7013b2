/- The pure statement of FnExactRecOk. No condition. -/
import Derived.Test.YtajahbpeiifcbaaPBRpcRec
import Derived.Test.YtajahbpeiifcbaaPBRecOk
import Derived.Test.YtajahbpeiifcbaaTBe1
import Derived.Test.YtajahbpeiifcbaaQFnExactRecOk
namespace Go.Proofs.Ytajahbpeiifcbaa.E.TB
open Go.Proofs.Ytajahbpeiifcbaa.E
set_option linter.unusedVariables false
theorem pureFnExactRecOk : PureFnExactRecOk := by
  intro r hr
  rw [l_FnExactRecOk_eq]
  obtain ⟨q, e1, h | ⟨h, e2, e3, e3', e4⟩⟩ := law_rec r hr
  · rw [e1, Option.bind_some, if_pos (decide_eq_true h)]
  · simp only [e1, e2, e4, s_RecOk_ok (cRec r) (by omega) (lines_map (fine_Rec hr).2.1), i_RecOk_ok (cRec r) (by omega), Option.bind_some]
    simp [h]
end Go.Proofs.Ytajahbpeiifcbaa.E.TB
