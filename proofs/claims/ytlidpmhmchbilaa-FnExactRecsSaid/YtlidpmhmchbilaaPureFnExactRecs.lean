/- The pure statement of FnExactRecs. No condition. -/
import Derived.Test.YtlidpmhmchbilaaPERecs
import Derived.Test.YtlidpmhmchbilaaPEToBytes
import Derived.Test.YtlidpmhmchbilaaPEEqBytes
import Derived.Test.YtlidpmhmchbilaaPEMarkBytes0
import Derived.Test.YtlidpmhmchbilaaTEe1
import Derived.Test.YtlidpmhmchbilaaQFnExactRecs
namespace Go.Proofs.Ytlidpmhmchbilaa.E.TE
open Go.Proofs.Ytlidpmhmchbilaa.E
set_option linter.unusedVariables false
theorem pureFnExactRecs : PureFnExactRecs := by
  intro b hb
  have hb' : b.length ≤ 9223372036854775807 ∧ ∀ x ∈ b, IntKind.u8.wrap x = x := hb
  have hw : Bytes b := fun x hx => by have := hb'.2 x hx; rw [← this]; exact w8_bd x
  rw [l_FnExactRecs_eq]
  by_cases h : (b.length : Int) > 1048576
  · rw [if_pos (decide_eq_true h)]
  · rw [if_neg (by simpa using h)]
    have hl : b.length ≤ 1048576 := by omega
    obtain ⟨l, q, h1, h2, h3, h4⟩ := recs_same b hl hw
    obtain ⟨k, l', m1, m2, m3⟩ := markRecS_ok l h3 h4
    have c1 : ¬ 1 + (b.length : Int) < 0 := by omega
    have c2 : ¬ k < 0 := by omega
    simp only [toByteS_ok b hl, Option.bind_some, h1, h2, eqByteS_ok b (by omega), eqRecS_ok l (by omega) h4, markByteS0_ok b 1 (by omega) (by omega), m1, m2, decide_eq_true_eq, if_neg c1, if_neg c2]
    simp
end Go.Proofs.Ytlidpmhmchbilaa.E.TE
