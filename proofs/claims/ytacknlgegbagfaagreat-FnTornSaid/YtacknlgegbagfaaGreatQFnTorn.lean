/- The one pure statement of the law FnTorn: its Lean function answers true at all arguments that a reading gives. No condition beyond that. -/
import Derived.Test.YtacknlgegbagfaaGreatTTe0
import Derived.Test.YtacknlgegbagfaaGreatEG4
namespace Go.Proofs.YtacknlgegbagfaaGreat.E.TT
open Go.Proofs.YtacknlgegbagfaaGreat.E
def BH:Prop:=∀ (t0:(List Int)),ki (G:=gam) 40 (.sl (.int .u8)) t0→tL t0=some (true,())
end Go.Proofs.YtacknlgegbagfaaGreat.E.TT
