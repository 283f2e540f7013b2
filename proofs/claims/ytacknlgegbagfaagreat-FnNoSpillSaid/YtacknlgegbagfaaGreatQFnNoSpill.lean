/- The one pure statement of the law FnNoSpill: its Lean function answers true at all arguments that a reading gives. No condition beyond that. -/
import Derived.Test.YtacknlgegbagfaaGreatTNe0
import Derived.Test.YtacknlgegbagfaaGreatEG4
namespace Go.Proofs.YtacknlgegbagfaaGreat.E.TN
open Go.Proofs.YtacknlgegbagfaaGreat.E
def Bl:Prop:=∀ (t0:(List Int)),j9 (G:=gam) 40 (.sl (.int .u8)) t0→tw t0=some (true,())
end Go.Proofs.YtacknlgegbagfaaGreat.E.TN
