/- Lines of entries. No condition. -/
import Derived.Test.YtajahbpeiifcbaaPBase
import Derived.Test.YtajahbpeiifcbaaTLe1
namespace Go.Proofs.Ytajahbpeiifcbaa.E.TL
open Go.Proofs.Ytajahbpeiifcbaa.E
set_option linter.unusedVariables false
/-- Lines that are no longer than a machine has room for. -/
def LinesOk (l : List impl_Entry) : Prop := ∀ e ∈ l, e.C.Line.length ≤ 9223372036854775807
end Go.Proofs.Ytajahbpeiifcbaa.E.TL
