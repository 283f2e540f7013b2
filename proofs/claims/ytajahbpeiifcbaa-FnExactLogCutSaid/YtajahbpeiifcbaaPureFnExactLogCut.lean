/- The pure statement of FnExactLogCut. No condition. -/
import Derived.Test.YtajahbpeiifcbaaPALawLog
import Derived.Test.YtajahbpeiifcbaaPALogCut
import Derived.Test.YtajahbpeiifcbaaPAMarkLog
import Derived.Test.YtajahbpeiifcbaaTAe1
import Derived.Test.YtajahbpeiifcbaaQFnExactLogCut
namespace Go.Proofs.Ytajahbpeiifcbaa.E.TA
open Go.Proofs.Ytajahbpeiifcbaa.E
set_option linter.unusedVariables false
theorem heldLog_ok {l : impl_Log} {k r : Int} (h : l_heldEntryS l.List k = some (r, ())) (hr : ¬ r < 0) : l_heldLog l k = some (r, ()) := by
  rw [l_heldLog_eq, h]
  simp [hr]
theorem pureFnExactLogCut : PureFnExactLogCut := by
  intro l i hl hi
  rw [l_FnExactLogCut_eq]
  obtain ⟨r, e1, h | ⟨h, e2, e3, e4, e5, e6⟩⟩ := law_log l hl
  · rw [e1, Option.bind_some, if_pos (decide_eq_true h)]
  · obtain ⟨y, h1, h2, h3⟩ := logCut_same (cLog l) i (by omega) e4 (fineI hi)
    obtain ⟨m, m1, m2⟩ := markLog_ok (cLog l) 1 (by omega) (by omega) (by omega)
    obtain ⟨n, n1, n2⟩ := markLog_ok y 1 (by omega) (by omega) (by omega)
    have n3 := heldLog_ok n2 (by omega)
    have c1 : ¬ 1 + 4 * ((cLog l).List.length : Int) < 0 := by omega
    have c2 : ¬ 1 + 4 * (y.List.length : Int) < 0 := by omega
    simp only [e1, e2, e6, h1, h2, m1, n1, n3, eqLog_ok y (by omega), Option.bind_some, decide_eq_true_eq, if_neg h, if_neg c1, if_neg c2]
    simp
end Go.Proofs.Ytajahbpeiifcbaa.E.TA
