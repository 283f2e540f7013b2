/- The keys' plain equations (4). No condition. -/
import Derived.Test.YthgknhkeifcflaaGreatDoorTEe0
namespace Go.Proofs.YthgknhkeifcflaaGreatDoor.E.TE
open Go.Proofs.YthgknhkeifcflaaGreatDoor.E
set_option linter.unusedVariables false
set_option maxRecDepth 100000
end Go.Proofs.YthgknhkeifcflaaGreatDoor.E.TE
