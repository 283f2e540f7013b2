/- What each argument of the law FnExactSumOf may be, and the one pure statement that is left of it: the law's Lean function answers true at all of them. No condition beyond what the reading of an argument gives. -/
import Derived.Test.YtfafpanihhikoaaOpens
import Derived.Test.YtfafpanihhikoaaPFnExactSumOfx1
namespace Go.Proofs.Ytfafpanihhikoaa.QFnExactSumOf
open Go.RowKit Go.Proofs.Ytfafpanihhikoaa.Opens Go.Proofs.Ytfafpanihhikoaa.PFnExactSumOf Go.Proofs.YtfafpanihhikoaaW.PrintWords Go.Proofs.YtfafpanihhikoaaW.PrintLast
set_option linter.unusedVariables false
theorem opens_arg0 : Opens Try.prog 31 (Kd.slice 5 (Kd.int .u8)) (fun y => (y.length ≤ 9223372036854775807 ∧ ∀ x ∈ y, (Lit.int .u8 x).wf = true)) :=
  opens_imp (opens_slice Try.underlying31 (opens_int Try.underlying5) (by kernel_rfl) (0 : Int)) (fun _ h => h)
/-- THE ONE PURE STATEMENT of laws_FnExactSumOf. -/
def Pure : Prop := ∀ (l0 : List Int), (l0.length ≤ 9223372036854775807 ∧ ∀ x ∈ l0, (Lit.int .u8 x).wf = true) → ∃ k, laws_FnExactSumOf.f k l0 = some true
end Go.Proofs.Ytfafpanihhikoaa.QFnExactSumOf
