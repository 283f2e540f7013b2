/- LastOf of the program and of the reference tell the same. No condition. -/
import Derived.Test.YtfafpanihhikoaaPALog
import Derived.Test.YtfafpanihhikoaaTAe1
namespace Go.Proofs.Ytfafpanihhikoaa.E.TA
open Go.Proofs.Ytfafpanihhikoaa.E
set_option linter.unusedVariables false
theorem fine_Log {l : laws_Log} (h : Fine (G := gam) 40 (.nm 6) l) : l.List.length ≤ 9223372036854775807 ∧ ∀ e ∈ l.List, e.C.Line.length ≤ 9223372036854775807 := by
  have h' : _ ∧ _ ∧ (l.List.length ≤ 9223372036854775807 ∧ ∀ e ∈ l.List, _ ∧ (_ ∧ _ ∧ (e.C.Line.length ≤ 9223372036854775807 ∧ _) ∧ _) ∧ _) ∧ _ := h
  exact ⟨h'.2.2.1.1, fun e he => (h'.2.2.1.2 e he).2.1.2.2.1.1⟩
theorem lastOf_same (l : impl_Log) (hl : l.List.length ≤ 4294967296) : ∃ y, s_LastOf l = some y ∧ i_LastOf l = some y := by
  rw [s_LastOf_eq, i_LastOf_eq, w64_id (n := (l.List.length : Int) - 1) (by omega) (by omega)]
  by_cases h : (l.List.length : Int) = 0
  · rw [if_pos (decide_eq_true h)]; exact ⟨_, rfl, rfl⟩
  · rw [if_neg (by rw [decide_eq_true_eq]; exact h), if_pos (by omega)]; exact ⟨_, rfl, rfl⟩
end Go.Proofs.Ytfafpanihhikoaa.E.TA
