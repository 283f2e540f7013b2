/- Indexes. No condition. -/
import Derived.Test.YtajahbpeiifcbaaPLImplIn
import Derived.Test.YtajahbpeiifcbaaTLe1
namespace Go.Proofs.Ytajahbpeiifcbaa.E.TL
open Go.Proofs.Ytajahbpeiifcbaa.E
set_option linter.unusedVariables false
def InI (n : Int) : Prop := -9223372036854775808 ≤ n ∧ n ≤ 9223372036854775807
theorem fineI {n : Int} (h : Fine (G := gam) 40 (.int .i64) n) : InI n := by
  have h' : w64 n = n := h
  have := w64_bd n
  rwa [h'] at this
theorem isIndex_ok (n : Int) : i_isIndex n = some (decide (0 ≤ n ∧ n ≤ 300), ()) := by rw [i_isIndex_eq, i_in_ok]; rfl
end Go.Proofs.Ytajahbpeiifcbaa.E.TL
