/- What each argument of the law FnExactDiskOk may be, and the one pure statement that is left of it: the law's Lean function answers true at all of them. No condition beyond what the reading of an argument gives. -/
import Derived.Test.YtfafpanihhikoaaOpens
import Derived.Test.YtfafpanihhikoaaPFnExactDiskOkx2
namespace Go.Proofs.Ytfafpanihhikoaa.QFnExactDiskOk
open Go.RowKit Go.Proofs.Ytfafpanihhikoaa.Opens Go.Proofs.Ytfafpanihhikoaa.PFnExactDiskOk Go.Proofs.YtfafpanihhikoaaW.PrintWords Go.Proofs.YtfafpanihhikoaaW.PrintLast
set_option linter.unusedVariables false
theorem opens_arg0 : Opens Try.prog 37 (Kd.pair (Kd.slice 5 (Kd.int .u8)) (Kd.int .i64)) (fun y => ((y.1.length ≤ 9223372036854775807 ∧ ∀ x ∈ y.1, (Lit.int .u8 x).wf = true) ∧ (Lit.int .i64 y.2).wf = true)) :=
  opens_imp (opens_struct (fs := _) Try.underlying37 (by kernel_rfl) (opensF_cons rfl (opens_slice Try.underlying31 (opens_int Try.underlying5) (by kernel_rfl) (0 : Int)) (by kernel_rfl) (opensF_one rfl (opens_int Try.underlying3) (by kernel_rfl)))) (fun _ h => h)
/-- THE ONE PURE STATEMENT of laws_FnExactDiskOk. -/
def Pure : Prop := ∀ (l0_0 : List Int) (a0_1 : Int), (l0_0.length ≤ 9223372036854775807 ∧ ∀ x ∈ l0_0, (Lit.int .u8 x).wf = true) → (Lit.int .i64 a0_1).wf = true → ∃ k, laws_FnExactDiskOk.f k l0_0 a0_1 = some true
end Go.Proofs.Ytfafpanihhikoaa.QFnExactDiskOk
