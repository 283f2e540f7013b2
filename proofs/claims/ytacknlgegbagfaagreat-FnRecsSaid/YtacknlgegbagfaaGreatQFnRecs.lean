/- The one pure statement of the law FnRecs: its Lean function answers true at all arguments that a reading gives. No condition beyond that. -/
import Derived.Test.YtacknlgegbagfaaGreatTRe0
import Derived.Test.YtacknlgegbagfaaGreatEG4
namespace Go.Proofs.YtacknlgegbagfaaGreat.E.TR
open Go.Proofs.YtacknlgegbagfaaGreat.E
def Ci:Prop:=∀ (t0:(List Int)),kJ (G:=gam) 40 (.sl (.int .u8)) t0→ug t0=some (true,())
end Go.Proofs.YtacknlgegbagfaaGreat.E.TR
