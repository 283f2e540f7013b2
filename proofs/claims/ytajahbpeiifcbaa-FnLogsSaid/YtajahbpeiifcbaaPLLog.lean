/- The harness at logs. No condition. -/
import Derived.Test.YtajahbpeiifcbaaPLEntryS
import Derived.Test.YtajahbpeiifcbaaTLe1
namespace Go.Proofs.Ytajahbpeiifcbaa.E.TL
open Go.Proofs.Ytajahbpeiifcbaa.E
set_option linter.unusedVariables false
def cLog (l : laws_Log) : impl_Log := ⟨l.Base, l.BaseTerm, l.List.map cEntry⟩
theorem fine_Log {l : laws_Log} (h : Fine (G := gam) 40 (.nm 2) l) : l.List.length ≤ 9223372036854775807 ∧ ∀ e ∈ l.List, e.C.Line.length ≤ 9223372036854775807 := by
  have h' : _ ∧ _ ∧ (l.List.length ≤ 9223372036854775807 ∧ ∀ e ∈ l.List, _ ∧ (_ ∧ _ ∧ (e.C.Line.length ≤ 9223372036854775807 ∧ _) ∧ _) ∧ _) ∧ _ := h
  exact ⟨h'.2.2.1.1, fun e he => (h'.2.2.1.2 e he).2.1.2.2.1.1⟩
end Go.Proofs.Ytajahbpeiifcbaa.E.TL
