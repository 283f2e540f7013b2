/- Records are like themselves. No condition. -/
import Derived.Test.YtlidpmhmchbilaaPEEntryS
import Derived.Test.YtlidpmhmchbilaaTEe1
namespace Go.Proofs.Ytlidpmhmchbilaa.E.TE
open Go.Proofs.Ytlidpmhmchbilaa.E
set_option linter.unusedVariables false
theorem eqRec_ok (r : impl_Rec) (hl : r.List.length ≤ 4294967296) : l_eqRec r r = some (true, ()) := by
  rw [l_eqRec_eq, eqEntryS_ok _ hl]; simp
end Go.Proofs.Ytlidpmhmchbilaa.E.TE
