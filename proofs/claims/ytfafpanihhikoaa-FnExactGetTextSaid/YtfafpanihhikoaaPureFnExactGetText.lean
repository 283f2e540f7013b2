/- The pure statement of FnExactGetText. No condition. -/
import Derived.Test.YtfafpanihhikoaaPABytes
import Derived.Test.YtfafpanihhikoaaPAGetNum
import Derived.Test.YtfafpanihhikoaaPAGetText
import Derived.Test.YtfafpanihhikoaaTAe1
import Derived.Test.YtfafpanihhikoaaQFnExactGetText
namespace Go.Proofs.Ytfafpanihhikoaa.E.TA
open Go.Proofs.Ytfafpanihhikoaa.E
set_option linter.unusedVariables false
theorem pureFnExactGetText : PureFnExactGetText := by
  intro b p hb hp
  have hb' : b.length ≤ 9223372036854775807 ∧ ∀ x ∈ b, IntKind.u8.wrap x = x := hb
  have hp' : w64 p = p := hp
  have hpr := w64_bd p
  rw [hp'] at hpr
  have hw : ∀ x ∈ b, 0 ≤ x ∧ x ≤ 255 := fun x hx => by have := hb'.2 x hx; rw [← this]; exact w8_bd x
  rw [l_FnExactGetText_eq]
  by_cases h : (b.length : Int) > 1048576
  · rw [if_pos (decide_eq_true h)]
  · rw [if_neg (by simpa using h)]
    have hl : b.length ≤ 1048576 := by omega
    obtain ⟨y, h1, h2⟩ := getText_same b hl hw p hpr
    rw [toByteS_ok b hl]
    simp only [Option.bind_some, h1, h2, eqByteS_ok b (by omega)]
    simp
end Go.Proofs.Ytfafpanihhikoaa.E.TA
