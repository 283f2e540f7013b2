/- The pure statement of FnExactRecBytes. No condition. -/
import Derived.Test.YtajahbpeiifcbaaPBRpcRec
import Derived.Test.YtajahbpeiifcbaaPBRecBytes
import Derived.Test.YtajahbpeiifcbaaPBEqBytes
import Derived.Test.YtajahbpeiifcbaaPBMarkBytes
import Derived.Test.YtajahbpeiifcbaaPBMarkLog
import Derived.Test.YtajahbpeiifcbaaTBe1
import Derived.Test.YtajahbpeiifcbaaQFnExactRecBytes
namespace Go.Proofs.Ytajahbpeiifcbaa.E.TB
open Go.Proofs.Ytajahbpeiifcbaa.E
set_option linter.unusedVariables false
theorem pureFnExactRecBytes : PureFnExactRecBytes := by
  intro r hr
  rw [l_FnExactRecBytes_eq]
  obtain ⟨q, e1, h | ⟨h, e2, e3, e3', e4⟩⟩ := law_rec r hr
  · rw [e1, Option.bind_some, if_pos (decide_eq_true h)]
  · have hy := recBytes_len (cRec r)
    obtain ⟨m', m3, m4, m5⟩ := markEntryS_ok (cRec r).List 1 (by omega) (by omega) (by omega)
    have m6 : l_markRec (cRec r) 1 = some (1 + 4 * ((cRec r).List.length : Int), ()) := by rw [l_markRec_eq, m3]; rfl
    have c1 : ¬ 1 + 4 * ((cRec r).List.length : Int) < 0 := by omega
    have c2 : ¬ 1 + ((recBytes (cRec r)).length : Int) < 0 := by omega
    simp only [e1, e2, e4, m6, s_RecBytes_ok (cRec r) (by omega) (lines_map (fine_Rec hr).2.1), i_RecBytes_ok (cRec r) (by omega), eqByteS_ok (recBytes (cRec r)) (by omega), markByteS_ok (recBytes (cRec r)) 1 (by omega) (by omega),
      heldByteS_ok (recBytes (cRec r)) 1 (by omega) (by omega), Option.bind_some, decide_eq_true_eq, if_neg h, if_neg c1, if_neg c2]
    simp
end Go.Proofs.Ytajahbpeiifcbaa.E.TB
