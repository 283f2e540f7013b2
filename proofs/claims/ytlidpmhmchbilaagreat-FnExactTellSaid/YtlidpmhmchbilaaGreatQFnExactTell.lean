/- The one pure statement of the law FnExactTell: its Lean function answers true at all arguments that a reading gives. No condition beyond that. -/
import Derived.Test.YtlidpmhmchbilaaGreatTTe0
import Derived.Test.YtlidpmhmchbilaaGreatEG4
namespace Go.Proofs.YtlidpmhmchbilaaGreat.E.TT
open Go.Proofs.YtlidpmhmchbilaaGreat.E
def PureFnExactTell : Prop := ∀ (t0 : laws_Peer) (t1 : laws_Rpc), Fine (G := gam) 40 (.nm 9) t0 → Fine (G := gam) 40 (.nm 10) t1 → l_FnExactTell t0 t1 = some (true, ())
end Go.Proofs.YtlidpmhmchbilaaGreat.E.TT
