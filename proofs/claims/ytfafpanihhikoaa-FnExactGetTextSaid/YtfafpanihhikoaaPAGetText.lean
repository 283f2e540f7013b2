/- GetText of the program and of the reference tell the same. No condition. -/
import Derived.Test.YtfafpanihhikoaaPAGetNum
import Derived.Test.YtfafpanihhikoaaTAe1
namespace Go.Proofs.Ytfafpanihhikoaa.E.TA
open Go.Proofs.Ytfafpanihhikoaa.E
set_option linter.unusedVariables false
theorem getText_same (b : List Int) (hb : b.length ≤ 1048576) (hw : ∀ x ∈ b, 0 ≤ x ∧ x ≤ 255) (p : Int) (hp : -9223372036854775808 ≤ p ∧ p ≤ 9223372036854775807) : ∃ y, s_GetText b p = some y ∧ i_GetText b p = some y := by
  rw [s_GetText_eq, i_GetText_eq, s_GetNum_ok b hb hw p hp, i_GetNum_ok b hb hw p]
  simp only [Option.bind_some, tr3]
  obtain ⟨h1, h2, h3, h4⟩ := getNumOf_bd b p
  generalize getNumOf b p = g at *
  obtain ⟨n, q, ok⟩ := g
  dsimp only at *
  cases ok with
  | false => exact ⟨_, rfl, rfl⟩
  | true =>
    simp only [Bool.not_true, Bool.false_eq_true, if_false]
    rw [w64_id (n := (b.length : Int) - q) (by omega) (by omega), w64_id (n := q + n) (by omega) (by omega)]
    by_cases h : n > (b.length : Int) - q
    · rw [if_pos (decide_eq_true h)]; exact ⟨_, rfl, rfl⟩
    · rw [if_neg (by simpa using h), if_pos (by omega)]; exact ⟨_, rfl, rfl⟩
end Go.Proofs.Ytfafpanihhikoaa.E.TA
