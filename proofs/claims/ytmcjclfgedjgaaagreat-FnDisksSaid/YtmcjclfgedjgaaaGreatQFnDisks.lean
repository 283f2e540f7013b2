/- The one pure statement of the law FnDisks: its Lean function answers true at all arguments that a reading gives. No condition beyond that. -/
import Derived.Test.YtmcjclfgedjgaaaGreatTDe0
import Derived.Test.YtmcjclfgedjgaaaGreatEG4
namespace Go.Proofs.YtmcjclfgedjgaaaGreat.E.TD
open Go.Proofs.YtmcjclfgedjgaaaGreat.E
def zC:Prop:=∀ (t0:(List Int)),jJ (G:=gam) 40 (.sl (.int .u8)) t0→se t0=some (true,())
end Go.Proofs.YtmcjclfgedjgaaaGreat.E.TD
