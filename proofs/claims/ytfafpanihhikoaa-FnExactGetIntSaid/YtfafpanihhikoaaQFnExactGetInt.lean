/- What each argument of the law FnExactGetInt may be, and the one pure statement that is left of it: the law's Lean function answers true at all of them. No condition beyond what the reading of an argument gives. -/
import Derived.Test.YtfafpanihhikoaaOpens
import Derived.Test.YtfafpanihhikoaaPFnExactGetIntx2
namespace Go.Proofs.Ytfafpanihhikoaa.QFnExactGetInt
open Go.RowKit Go.Proofs.Ytfafpanihhikoaa.Opens Go.Proofs.Ytfafpanihhikoaa.PFnExactGetInt Go.Proofs.YtfafpanihhikoaaW.PrintWords Go.Proofs.YtfafpanihhikoaaW.PrintLast
set_option linter.unusedVariables false
theorem opens_arg0 : Opens Try.prog 31 (Kd.slice 5 (Kd.int .u8)) (fun y => (y.length ≤ 9223372036854775807 ∧ ∀ x ∈ y, (Lit.int .u8 x).wf = true)) :=
  opens_imp (opens_slice Try.underlying31 (opens_int Try.underlying5) (by kernel_rfl) (0 : Int)) (fun _ h => h)
/-- THE ONE PURE STATEMENT of laws_FnExactGetInt. -/
def Pure : Prop := ∀ (l0 : List Int) (a1 : Int), (l0.length ≤ 9223372036854775807 ∧ ∀ x ∈ l0, (Lit.int .u8 x).wf = true) → (Lit.int .i64 a1).wf = true → ∃ k, laws_FnExactGetInt.f k l0 a1 = some true
end Go.Proofs.Ytfafpanihhikoaa.QFnExactGetInt
