/- What each argument of the law FnExactSinkOk may be, and the one pure statement that is left of it: the law's Lean function answers true at all of them. No condition beyond what the reading of an argument gives. -/
import Derived.Test.YtfafpanihhikoaaOpens
import Derived.Test.YtfafpanihhikoaaPFnExactSinkOkx1
namespace Go.Proofs.Ytfafpanihhikoaa.QFnExactSinkOk
open Go.RowKit Go.Proofs.Ytfafpanihhikoaa.Opens Go.Proofs.Ytfafpanihhikoaa.PFnExactSinkOk Go.Proofs.YtfafpanihhikoaaW.PrintWords Go.Proofs.YtfafpanihhikoaaW.PrintLast
set_option linter.unusedVariables false
theorem opens_arg0 : Opens Try.prog 25 (Kd.pair (Kd.int .i64) Kd.string) (fun y => ((Lit.int .i64 y.1).wf = true ∧ ByteArray.size y.2 ≤ 9223372036854775807)) :=
  opens_imp (opens_struct (fs := _) Try.underlying25 (by kernel_rfl) (opensF_cons rfl (opens_int Try.underlying3) (by kernel_rfl) (opensF_one rfl (opens_string Try.underlying9) (by kernel_rfl)))) (fun _ h => h)
/-- THE ONE PURE STATEMENT of laws_FnExactSinkOk. -/
def Pure : Prop := ∀ (a0_0 : Int) (a0_1 : ByteArray), (Lit.int .i64 a0_0).wf = true → ByteArray.size a0_1 ≤ 9223372036854775807 → laws_FnExactSinkOk.f a0_0 a0_1 = some true
end Go.Proofs.Ytfafpanihhikoaa.QFnExactSinkOk
