/- The one pure statement of the law FnExactRecs: its Lean function answers true at all arguments that a reading gives. No condition beyond that. -/
import Derived.Test.YtlidpmhmchbilaaTEe0
import Derived.Test.YtlidpmhmchbilaaEG4
namespace Go.Proofs.Ytlidpmhmchbilaa.E.TE
open Go.Proofs.Ytlidpmhmchbilaa.E
def PureFnExactRecs : Prop := ∀ (t0 : (List Int)), Fine (G := gam) 40 (.sl (.int .u8)) t0 → l_FnExactRecs t0 = some (true, ())
end Go.Proofs.Ytlidpmhmchbilaa.E.TE
