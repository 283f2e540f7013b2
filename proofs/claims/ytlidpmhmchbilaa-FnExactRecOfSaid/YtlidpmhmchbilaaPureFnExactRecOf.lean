/- The pure statement of FnExactRecOf. No condition. -/
import Derived.Test.YtlidpmhmchbilaaPARecOf
import Derived.Test.YtlidpmhmchbilaaPAToBytes
import Derived.Test.YtlidpmhmchbilaaPAEqBytes
import Derived.Test.YtlidpmhmchbilaaPAMarkBytes0
import Derived.Test.YtlidpmhmchbilaaPAMarkRec
import Derived.Test.YtlidpmhmchbilaaPAEqRec
import Derived.Test.YtlidpmhmchbilaaTAe1
import Derived.Test.YtlidpmhmchbilaaQFnExactRecOf
namespace Go.Proofs.Ytlidpmhmchbilaa.E.TA
open Go.Proofs.Ytlidpmhmchbilaa.E
set_option linter.unusedVariables false
theorem pureFnExactRecOf : PureFnExactRecOf := by
  intro b p hb hp
  have hb' : b.length ≤ 9223372036854775807 ∧ ∀ x ∈ b, IntKind.u8.wrap x = x := hb
  have hp' : w64 p = p := hp
  have hpr := w64_bd p
  rw [hp'] at hpr
  have hw : Bytes b := fun x hx => by have := hb'.2 x hx; rw [← this]; exact w8_bd x
  rw [l_FnExactRecOf_eq]
  by_cases h : (b.length : Int) > 1048576
  · rw [if_pos (decide_eq_true h)]
  · rw [if_neg (by simpa using h)]
    have hl : b.length ≤ 1048576 := by omega
    obtain ⟨r, q, ok, h1, h2, h3⟩ := recOf_same b hl hw p hpr
    obtain ⟨r', m1, m2⟩ := markRec_ok r 1 (by omega) (by omega) (by omega)
    have c1 : ¬ 1 + (b.length : Int) < 0 := by omega
    have c2 : ¬ 1 + 4 * (r.List.length : Int) < 0 := by omega
    simp only [toByteS_ok b hl, Option.bind_some, h1, h2, eqByteS_ok b (by omega), eqRec_ok r (by omega), markByteS0_ok b 1 (by omega) (by omega), m1, m2, decide_eq_true_eq, if_neg c1, if_neg c2]
    simp
end Go.Proofs.Ytlidpmhmchbilaa.E.TA
