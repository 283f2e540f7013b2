/- Lines of entries. No condition. -/
import Derived.Test.YtlidpmhmchbilaaPBase
import Derived.Test.YtlidpmhmchbilaaTEe1
namespace Go.Proofs.Ytlidpmhmchbilaa.E.TE
open Go.Proofs.Ytlidpmhmchbilaa.E
set_option linter.unusedVariables false
/-- Lines that are no longer than a machine has room for. -/
def LinesOk (l : List impl_Entry) : Prop := ∀ e ∈ l, e.C.Line.length ≤ 9223372036854775807
end Go.Proofs.Ytlidpmhmchbilaa.E.TE
