/- The harness at slices of bytes: likeness. No condition. -/
import Derived.Test.YtlidpmhmchbilaaPBase
import Derived.Test.YtlidpmhmchbilaaTEe1
namespace Go.Proofs.Ytlidpmhmchbilaa.E.TE
open Go.Proofs.Ytlidpmhmchbilaa.E
set_option linter.unusedVariables false
theorem eqByteS_ok (l : List Int) (hl : l.length ≤ 4294967296) : l_eqByteS l l = some (true, ()) := by
  rw [l_eqByteS_eq, if_neg (by simp)]
  exact all_loop (fun i => l_eqByteS_L1 l l i) l _ (fun i h => by
    show l_eqByteS_L1 l l i = _
    rw [l_eqByteS_L1_eq, if_pos (decide_eq_true (by omega)), if_pos (by omega), if_pos (by omega), if_neg (by simp), w64_succ h (by omega)]) (by
    show l_eqByteS_L1 l l _ = _
    rw [l_eqByteS_L1_eq, if_neg (by simp)])
end Go.Proofs.Ytlidpmhmchbilaa.E.TE
