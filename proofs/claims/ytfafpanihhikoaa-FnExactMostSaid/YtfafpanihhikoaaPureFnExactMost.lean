/- For every input the program's Most returns what the reference's Most returns; no condition on the argument. -/
import Derived.Test.YtfafpanihhikoaaPFnExactMostx1
namespace Go.Proofs.Ytfafpanihhikoaa.Pure
open Go.RowKit Go.Proofs.Ytfafpanihhikoaa.PFnExactMost Go.Proofs.YtfafpanihhikoaaW.PrintWords Go.Proofs.YtfafpanihhikoaaW.PrintLast

/-- YOURS: ∀ (a0 : Int), (Lit.int .i64 a0).wf = true → laws_FnExactMost.f a0 = some true
What it reaches (each with k first where it has rounds; `.mono`: more rounds tell the same; `.l0`, ..: its loops, with `.mono_l`): spec_Most.f, impl_Most.f, laws_FnExactMost.f -/
theorem FnExactMost : laws_FnExactMost.Pure := by
  intro a0 w0
  simp only [laws_FnExactMost.f, spec_Most.f, impl_Most.f, Option.bind_some, if_true]

end Go.Proofs.Ytfafpanihhikoaa.Pure
