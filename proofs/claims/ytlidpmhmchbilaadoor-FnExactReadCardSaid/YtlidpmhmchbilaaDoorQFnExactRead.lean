/- The one pure statement of the law FnExactRead: its Lean function answers true at all arguments that a reading gives. No condition beyond that. -/
import Derived.Test.YtlidpmhmchbilaaDoorTAe0
import Derived.Test.YtlidpmhmchbilaaDoorEG4
namespace Go.Proofs.YtlidpmhmchbilaaDoor.E.TA
open Go.Proofs.YtlidpmhmchbilaaDoor.E
def PureFnExactRead : Prop := ∀ (t0 : (List Int)), Fine (G := gam) 40 .str t0 → l_FnExactRead t0 = some (true, ())
end Go.Proofs.YtlidpmhmchbilaaDoor.E.TA
