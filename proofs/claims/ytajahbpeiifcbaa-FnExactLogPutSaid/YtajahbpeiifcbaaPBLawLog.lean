/- The beginning of a law over a log. No condition. -/
import Derived.Test.YtajahbpeiifcbaaPBLog
import Derived.Test.YtajahbpeiifcbaaPBThere
import Derived.Test.YtajahbpeiifcbaaTBe1
namespace Go.Proofs.Ytajahbpeiifcbaa.E.TB
open Go.Proofs.Ytajahbpeiifcbaa.E
set_option linter.unusedVariables false
/-- What is known of a log that is looked at. -/
theorem law_log (l : laws_Log) (hl : Fine (G := gam) 40 (.nm 4) l) : ∃ r, l_szLog l 1048576 = some (r, ()) ∧ (r < 0 ∨ (¬ r < 0 ∧ l_toLog l = some (cLog l, ()) ∧ (cLog l).List.length ≤ 1048576 ∧ InI (cLog l).Base ∧ InI (cLog l).BaseTerm ∧ l_eqLog (cLog l) (cLog l) = some (true, ()))) := by
  have hl' := fine_Log hl
  obtain ⟨r, e1, e2, e3, e4⟩ := szLog_ok l 1048576 (by omega) (by omega) hl'.1 hl'.2
  refine ⟨r, e1, ?_⟩
  by_cases h : r < 0
  · exact .inl h
  · obtain ⟨n1, n2⟩ := e3 (by omega)
    have hc : (cLog l).List.length ≤ 1048576 := by show (l.List.map cEntry).length ≤ _; rw [List.length_map]; exact n1
    exact .inr ⟨h, toLog_ok l n1, hc, (fine_LogI hl).1, (fine_LogI hl).2, eqLog_ok _ (by omega)⟩
end Go.Proofs.Ytajahbpeiifcbaa.E.TB
