/- What each argument of the law FnExactOffer may be, and the one pure statement that is left of it: the law's Lean function answers true at all of them. No condition beyond what the reading of an argument gives. -/
import Derived.Test.YtfafpanihhikoaaOpens
import Derived.Test.YtfafpanihhikoaaMFnExactOfferx2
namespace Go.Proofs.Ytfafpanihhikoaa.QFnExactOffer
open Go.RowKit Go.Proofs.Ytfafpanihhikoaa.Opens Go.Proofs.Ytfafpanihhikoaa.MFnExactOffer Go.Proofs.YtfafpanihhikoaaW.PrintWords Go.Proofs.YtfafpanihhikoaaW.PrintLast
set_option linter.unusedVariables false
theorem opens_arg0 : Opens Try.prog 25 (Kd.pair (Kd.int .i64) Kd.string) (fun y => ((Lit.int .i64 y.1).wf = true ∧ ByteArray.size y.2 ≤ 9223372036854775807)) :=
  opens_imp (opens_struct (fs := _) Try.underlying25 (by kernel_rfl) (opensF_cons rfl (opens_int Try.underlying3) (by kernel_rfl) (opensF_one rfl (opens_string Try.underlying9) (by kernel_rfl)))) (fun _ h => h)
/-- THE ONE PURE STATEMENT of laws_FnExactOffer. -/
def Pure : Prop := ∀ (a0_0 : Int) (a0_1 : ByteArray) (a1 : Int) (a2 : Int) (a3 : ByteArray), (Lit.int .i64 a0_0).wf = true → ByteArray.size a0_1 ≤ 9223372036854775807 → (Lit.int .i64 a1).wf = true → (Lit.int .i64 a2).wf = true → ByteArray.size a3 ≤ 9223372036854775807 → ∃ k, laws_FnExactOffer.f k a0_0 a0_1 a1 a2 a3 = some true
end Go.Proofs.Ytfafpanihhikoaa.QFnExactOffer
